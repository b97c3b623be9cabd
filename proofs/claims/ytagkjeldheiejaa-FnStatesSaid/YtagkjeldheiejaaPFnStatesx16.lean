-- Written by a program of mine (a turned copy of the kit's print): functions as plain Lean, their contracts.
import Derived.Test.YtagkjeldheiejaaPFnStatesx13
import Derived.Test.YtagkjeldheiejaaPFnStatesx14
import Derived.Test.YtagkjeldheiejaaPFnStatesx15
import Derived.Test.YtagkjeldheiejaaVFnStates1
namespace Go.Proofs.Ytagkjeldheiejaa.PFnStates
open Go.RowKit Go.Proofs.YtagkjeldheiejaaW.PrintWords Go.Proofs.YtagkjeldheiejaaW.PrintLast Go.Proofs.YtagkjeldheiejaaW.PrintMore
attribute [local go_sem] max2_int min2_int max_two min_two max_three min_three max_four min_four   -- for this text's walks alone
set_option maxHeartbeats 8000000
set_option maxRecDepth 100000
set_option linter.unusedVariables false
set_option linter.unusedSimpArgs false
/-! ### spec_StateOf: function 38 -/
mutual
def spec_StateOf.l0 : Nat → List (S32) → List Int → Int → Option ((List (S66)))
 | 0, _, _, _ => none
 | k + 1, a, b, c => if c < (a.length : Int) then (if 0 ≤ c then ((spec_l07Best.f k a 2 ((rd_T32 a c).f1.f1) 0).bind fun bt449 => (if ((rd_T32 a c).f1.f0) = 1 then (if bt449.2.2.2.2.2.2.2.2.2 = true then (spec_StateOf.l0 k a b (wrap64 (c + 1))) else ((spec_l07Sorted.f k b ((rd_T32 a c).f1.f1)).bind fun t460 => (spec_StateOf.l0 k a t460 (wrap64 (c + 1))))) else (spec_StateOf.l0 k a b (wrap64 (c + 1))))) else (none)) else (spec_StateOf.l1 k a b 0 ([] : List (S66)))
def spec_StateOf.l1 : Nat → List (S32) → List Int → Int → List (S66) → Option ((List (S66)))
 | 0, _, _, _, _ => none
 | k + 1, a, b, c, d => if c < (b.length : Int) then (if 0 ≤ c then ((spec_l07Tell.f k a (rd b c)).bind fun bt464 => ((spec_l07Next.f k a (rd b c)).bind fun t476 => ((spec_l07Mails.f k a (rd b c)).bind fun t478 => (if d.length < 1954687338268 then (spec_StateOf.l1 k a b (wrap64 (c + 1)) (d ++ [(⟨rd b c, bt464.2.2.2.2.2.2.1, bt464.2.2.2.2.2.2.2.1, t476, t478⟩ : S66)])) else (none))))) else (none)) else (some d)
end
def spec_StateOf.f (k : Nat) (l0 : List (S32)) : Option ((List (S66))) := (spec_ItemsOk.f k l0).bind fun t443 => (if t443 = true then (spec_StateOf.l0 k l0 (([] : List Int)) 0) else (some ([] : List (S66))))
theorem spec_StateOf.mono_l : ∀ k, (∀ y0 y1 y2, LeO (spec_StateOf.l0 k y0 y1 y2) (spec_StateOf.l0 (k + 1) y0 y1 y2)) ∧ (∀ y0 y1 y2 y3, LeO (spec_StateOf.l1 k y0 y1 y2 y3) (spec_StateOf.l1 (k + 1) y0 y1 y2 y3))
 | 0 => ⟨fun _ _ _ r h => by simp [spec_StateOf.l0] at h, fun _ _ _ _ r h => by simp [spec_StateOf.l1] at h⟩
 | k + 1 => by
  obtain ⟨ih0, ih1⟩ := spec_StateOf.mono_l k
  refine ⟨?_, ?_⟩
  intro y0 y1 y2;unfold spec_StateOf.l0;rotate_left
  intro y0 y1 y2 y3;unfold spec_StateOf.l1;rotate_left
  all_goals repeat' with_reducible first | exact ih0 _ _ _ | exact ih1 _ _ _ _ | exact spec_ItemsOk.mono _ _ | exact spec_l07Best.mono _ _ _ _ _ | exact spec_l07Mails.mono _ _ _ | exact spec_l07Next.mono _ _ _ | exact spec_l07Sorted.mono _ _ _ | exact spec_l07Tell.mono _ _ _ | exact LeO.refl _ | exact LeO.none _ | refine LeO.ite ?_ ?_ | refine LeO.bind ?_ (fun _ => ?_)
theorem spec_StateOf.mono : ∀ a0 k, LeO (spec_StateOf.f k a0) (spec_StateOf.f (k + 1) a0) := by
 intro a0 k
 obtain ⟨ih0, ih1⟩ := spec_StateOf.mono_l k
 unfold spec_StateOf.f
 repeat' with_reducible first | exact ih0 _ _ _ | exact ih1 _ _ _ _ | exact spec_ItemsOk.mono _ _ | exact spec_l07Best.mono _ _ _ _ _ | exact spec_l07Mails.mono _ _ _ | exact spec_l07Next.mono _ _ _ | exact spec_l07Sorted.mono _ _ _ | exact spec_l07Tell.mono _ _ _ | exact LeO.refl _ | exact LeO.none _ | refine LeO.ite ?_ ?_ | refine LeO.bind ?_ (fun _ => ?_)
def spec_StateOf.T16 : Bool × List (List Nat × List Nat) := (true, [([], []), ([0], [0]), ([], []), ([], []), ([2, 3], [2, 3]), ([4], [4]), ([], []), ([6], [6]), ([7], [7]), ([], []), ([9], [9]), ([10], [10]), ([], []), ([], []), ([], []), ([13, 14], [13, 14]), ([15], [15]), ([12, 16], [12, 16]), ([], []), ([], []), ([], []), ([19, 20], [19, 20]), ([21], [21]), ([18, 22, 17], [18, 22]), ([5, 8, 11, 17, 23], [5, 8, 11, 17, 23]), ([24], [24]), ([1, 25, 23], [1, 25]), ([0, 1, 2, 3, 4, 5, 6, 7, 8, 9, 10, 11, 12, 13, 14, 15, 16, 17, 18, 19, 20, 21, 22, 23, 24, 25, 26], []), ([27, 26, 26, 0, 1, 2, 3, 4, 5, 6, 7, 8, 9, 10, 11, 12, 13, 14, 15, 16, 17, 18, 19, 20, 21, 22, 23, 24, 25, 26], [26, 27])])
def spec_StateOf.B16 : List Nat := [0, 1, 0, 0, 12, 28, 0, 64, 192, 0, 512, 1536, 0, 0, 0, 24576, 57344, 126976, 0, 0, 0, 1572864, 3670016, 8384512, 16777212, 33554428, 67108863, 134217727, 268435455]
theorem spec_StateOf.tab16 : rtab .any (opsOf Try.f38 16) = spec_StateOf.T16 := by kernel_rfl
theorem spec_StateOf.bits16 : waitsOk spec_StateOf.T16.2 spec_StateOf.B16 = true := by kernel_rfl
theorem spec_StateOf.calls (k : Nat) (A0 : Option Addr) (c0 : Nat) (l0 : List (S32)) (r : List (S66)) (w : World) (hr0 : Kd.C k32 w A0 l0.length l0) (hc0 : l0.length ≤ c0) (h : spec_StateOf.f k l0 = some r) :
  Calls Try.prog 38 #[.slice A0 l0.length c0] w fun e w' => ∃ v0_ : Value, e = .returned (.agg #[v0_]) ∧ Kd.S k66 66 w' w.heap.size (fun _ => True) v0_ r ∧ Below w.heap.size w w' := by
 have hu60 := Try.underlying60
 have hu23 := Try.underlying23
 have hu32 := Try.underlying32
 have hu66 := Try.underlying66
 have HR0 := Aside0.mk hr0
 have HC0 := Aside0.mk hc0
 clear hr0 hc0
 have HB := ak (Below.refl w.heap.size w)
 have H := h
 clear h
 unfold spec_StateOf.f at H
 obtain ⟨t443, A2, H⟩ := eb H
 try dsimp only at H
 by_cases c3 : t443 = true
 {
 subst c3
 rw [if_pos rfl] at H
 obtain ⟨y444, hy444⟩ : ∃ y_ : List Int, y_ = (([] : List Int)) := ⟨_, rfl⟩
 replace H : (spec_StateOf.l0 k l0 y444 0) = some r := by first | (rw [hy444]; with_reducible exact H) | (have H2_ := (Option.bind_some _ _).symm.trans H; rw [hy444]; with_reducible exact H2_) | (have H2_ := (Option.bind_some _ _).symm.trans H; with_reducible exact H2_) | with_reducible exact H | (rw [hy444]; exact H) | exact H
 have Ny444 := Aside0.mk hy444
 clear hy444
 have H' := Aside0.mk H
 clear H
 go_enter Try.func38, Try.ntmps38
 go_wp2_with (first | ((with_reducible refine gate_dst (N := 2) rfl ?_); refine bx 2 #[.slice none 0 0] 60 ?_; intro gb441 hg w4 hbox hb; replace BK441 := ak (hbox); replace GE441 := ak (bz hg (lG HB)); replace HB := lB HB hb; clear hb hbox hg) | ((with_reducible refine gate_dst (N := 3) rfl ?_); refine bx 3 #[.slice none 0 0] 60 ?_; intro gb442 hg w5 hbox hb; replace BK442 := ak (hbox); replace GW442 := ak (bz hg (lT HB (gC GE441 gN))); replace GE442 := ak (bz hg (lT HB (gC GE441 gN))); replace HB := ak (below_step (lT HB (gC GE441 gN)) hb); replace NB441_442 := ak (nl hg (bG BK441)); replace NB442_441 := ak (ng hg (bG BK441)); replace BK441 := bB BK441 hb; clear hb hbox hg; have hnb6 := NB442_441.out; have hnc6 := NB441_442.out; obtain ⟨hcz7_0, hfz7_0⟩ := bC1 BK442) | ((with_reducible refine gate_callee (f := 19) rfl ?_); refine gl (some 13) Try.func19 #[.slice A0 l0.length c0] ?_; (with_reducible refine (spec_ItemsOk.calls k _ _ l0 _ _ ?side1 ?side2 A2.out).mono ?_); (case side1 => exact Kd.C_below HR0.out (lT HB (gC GE441 (gC GE442 gN)))); (case side2 => exact HC0.out); rintro e w8 ⟨rfl, hb⟩; refine ⟨_, rfl, ?_⟩; replace BK441 := ak (blk_below (bT BK441 (nC NB441_442 nN)) hb); replace BK442 := ak (blk_below (g := gb442) (o := .cells #[.slice none 0 0] 60 (0, 0)) (bW BK442) hb); replace HB := ak (below_step (lT HB (gC GE441 (gC GE442 gN))) hb); (try clear hb); (try clear hk)) | ((with_reducible refine gate_dst (N := 16) rfl ?_); refine Kd.R_lit (Kd.int .i64) _ 3 ?hg (N := 16) ?hd (xs := ([] : List Int)) (inner := []) (ok := fun _ => True) (okp := fun _ => True) ?hr ?hp (fun _ hk => hk) trivial (Below.refl _ _) (Nat.le_refl _) (by simp) ?_; (case hd => rfl); (case hg => rfl); (case hr => first | (go_simp; done) | (go_simp; rfl)); (case hp => exact (Reps.none _ _)); intro v445 w9 ho10 hb hg_ hnew_; clear hg_ hnew_; (first | rw [← Ny444.out] at ho10 | (simp only [Int.reduceToNat] at ho10; rw [← Ny444.out] at ho10)); replace HO446 := ak (Kd.R_lower ho10 (below_size (lT HB (gC GE441 (gC GE442 gN))))); replace BK441 := bB BK441 hb; replace BK442 := bB BK442 hb; replace HB := ak (below_step (lT HB (gC GE441 (gC GE442 gN))) hb); clear hb ho10))
 go_loopg [4, 5] k (fun kq v4 v5 w' => ∃ (x4_1 : List Int) (x5_1 : Int), v5 = .int .i64 x5_1 ∧ Aside0 (spec_StateOf.l0 kq l0 x4_1 x5_1 = some r) ∧ Aside0 (kq ≤ k) ∧ Aside0 (Kd.R (Kd.int .i64) 3 w' w.heap.size (fun _ => True) v4 x4_1) ∧ Aside0 (w'.heap[gb441]? = some (.cells #[(.slice none 0 0)] 60 (0, 0))) ∧ Aside0 (w'.heap[gb442]? = some (.cells #[(.slice none 0 0)] 60 (0, 0))) ∧ Aside0 (Below w.heap.size w w'))
 case atStart => exact ⟨_, _, rr, H', ⟨Nat.le_refl _⟩, ⟨by (with_reducible repeat (first | apply Kd.R_alloc | apply Kd.R_drewN | apply Kd.R_drew)); exact HO446.out⟩, ⟨bG BK441⟩, ⟨bG BK442⟩, ⟨by exact lT HB (gC GE441 (gC GE442 gN))⟩⟩
 case round =>
  skip;{
 clear H'
 try clear c3 hcz7_0 hfz7_0
 obtain ⟨x4_1, x5_1, rfl, HA, HK1, HO_4, BK441, BK442, HB⟩ := hrel
 cases gk with
 | zero => exact absurd HA.out (by simp [spec_StateOf.l0])
 | succ k1 =>
  skip;{
 have H := HA.out
 clear HA
 simp only [spec_StateOf.l0] at H
 by_cases c11 : x5_1 < (l0.length : Int)
 {
 rw [if_pos c11] at H
 have c11b0 := decide_eq_true c11
 clear c11
 by_cases c12 : 0 ≤ x5_1
 {
 rw [if_pos c12] at H
 have c12b0 := decide_eq_true c12
 clear c12
 obtain ⟨⟨t449, t450, t451, t452, t453, t454, t455, t456, t457, t458⟩, A13, H⟩ := eb H
 try dsimp only at H
 have HS_ := Aside0.mk H
 clear H
 have p447 : 0 ≤ (x5_1 : Int) := oda
 have q447 : x5_1 < (l0.length : Int) := oda
 obtain ⟨ad447, e447, hx447_0, hx447_1, hx447_2, hx447_3, hx447_4, hx447_5, hx447_6, hx447_7, hx447_8⟩ := at_T32 HR0.out x5_1 p447 q447
 cases e447
 replace hx447_0 := clB HB hx447_0
 replace hx447_1 := clB HB hx447_1
 replace hx447_2 := clB HB hx447_2
 replace hx447_3 := clB HB hx447_3
 replace hx447_4 := clB HB hx447_4
 replace hx447_5 := clB HB hx447_5
 replace hx447_6 := clB HB hx447_6
 replace hx447_7 := clB HB hx447_7
 replace hx447_8 := clB HB hx447_8
 replace p447 := eq_true p447
 replace q447 := eq_true q447
 go_wp2_with (first | ((with_reducible refine gate_dst (N := 6) rfl ?_); refine bx 6 #[.int .i64 0, .int .i64 0, .int .i64 0, .int .i64 0, .int .i64 0, .string (⟨#[]⟩ : ByteArray), .string (⟨#[]⟩ : ByteArray), .string (⟨#[]⟩ : ByteArray)] 23 ?_; intro gb448 hg w16 hbox hb; replace HO_4 := rB HO_4 hb; replace BK448 := ak (hbox); replace GW448 := ak (bz hg (lT HB (gC GE441 (gC GE442 gN)))); replace GE448 := ak (bz hg (lT HB (gC GE441 (gC GE442 gN)))); replace HB := ak (below_step (lT HB (gC GE441 (gC GE442 gN))) hb); replace NB441_448 := ak (nl hg (bG BK441)); replace NB448_441 := ak (ng hg (bG BK441)); replace BK441 := bB BK441 hb; replace NB442_448 := ak (nl hg (bG BK442)); replace NB448_442 := ak (ng hg (bG BK442)); replace BK442 := bB BK442 hb; clear hb hbox hg; have hnb17 := NB448_441.out; have hnc17 := NB441_448.out; have hnb18 := NB448_442.out; have hnc18 := NB442_448.out; obtain ⟨hcz19_0, hcz19_1, hcz19_2, hcz19_3, hcz19_4, hcz19_5, hcz19_6, hcz19_7, hfz19_0, hfz19_1, hfz19_2, hfz19_3, hfz19_4, hfz19_5, hfz19_6, hfz19_7⟩ := bC8 BK448) | ((with_reducible refine gate_callee (f := 80) rfl ?_); refine gl (some 32) Try.func80 #[.slice (some ad447) l0.length c0, .int .i64 2, .int .i64 ((rd_T32 l0 x5_1).f1.f1), .int .i64 0] ?_; (with_reducible refine (spec_l07Best.calls k1 _ _ l0 2 ((rd_T32 l0 x5_1).f1.f1) 0 _ _ _ _ _ _ _ _ _ _ _ ?side1 ?side2 A13.out).mono ?_); (case side1 => exact Kd.C_below HR0.out (lT HB (gC GE441 (gC GE442 (gC GE448 gN))))); (case side2 => exact HC0.out); rintro e w20 ⟨rfl, hb⟩; refine ⟨_, rfl, ?_⟩; replace HO_4 := ak (Kd.R_below (rT HO_4 BK448 (by decide)) hb); replace BK441 := ak (blk_below (bT BK441 (nC NB441_448 nN)) hb); replace BK442 := ak (blk_below (bT BK442 (nC NB442_448 nN)) hb); replace BK448 := ak (blk_below (g := gb448) (o := .cells #[.int .i64 ((rd_T32 l0 x5_1).f1.f0), .int .i64 ((rd_T32 l0 x5_1).f1.f1), .int .i64 ((rd_T32 l0 x5_1).f1.f2), .int .i64 ((rd_T32 l0 x5_1).f1.f3), .int .i64 ((rd_T32 l0 x5_1).f1.f4), .string ((rd_T32 l0 x5_1).f1.f5), .string ((rd_T32 l0 x5_1).f1.f6), .string ((rd_T32 l0 x5_1).f1.f7)] 23 (0, 0)) (bW BK448) hb); replace HB := ak (below_step (lT HB (gC GE441 (gC GE442 (gC GE448 gN)))) hb); (try clear hb); (try clear hk); refine Stop.out ?_))
 have H := HS_.out
 clear HS_
 by_cases c14 : ((rd_T32 l0 x5_1).f1.f0) = 1
 {
 rw [if_pos c14] at H
 have c14b0 := beq_iff_eq.mpr c14
 have c14b1 := bne_eq_false_iff_eq.mpr c14
 clear c14
 by_cases c15 : t458 = true
 {
 subst c15
 rw [if_pos rfl] at H
 have H' := Aside0.mk H
 clear H
 refine ⟨?_⟩
 go_wp2_with ((with_reducible refine gate_dst (N := 7) rfl ?_); refine bx 7 #[.int .i64 0, .int .i64 0, .int .i64 0, .int .i64 0, .int .i64 0, .int .i64 0, .string (⟨#[]⟩ : ByteArray), .string (⟨#[]⟩ : ByteArray), .string (⟨#[]⟩ : ByteArray)] 32 ?_; intro gb459 hg w21 hbox hb; replace HO_4 := rB HO_4 hb; replace BK459 := ak (hbox); replace GW459 := ak (bz hg (lT HB (gC GE441 (gC GE442 (gC GE448 gN))))); replace GE459 := ak (bz hg (lT HB (gC GE441 (gC GE442 (gC GE448 gN))))); replace HB := ak (below_step (lT HB (gC GE441 (gC GE442 (gC GE448 gN)))) hb); replace NB441_459 := ak (nl hg (bG BK441)); replace NB459_441 := ak (ng hg (bG BK441)); replace BK441 := bB BK441 hb; replace NB442_459 := ak (nl hg (bG BK442)); replace NB459_442 := ak (ng hg (bG BK442)); replace BK442 := bB BK442 hb; replace NB448_459 := ak (nl hg (bG BK448)); replace NB459_448 := ak (ng hg (bG BK448)); replace BK448 := bB BK448 hb; clear hb hbox hg; have hnb22 := NB459_441.out; have hnc22 := NB441_459.out; have hnb23 := NB459_442.out; have hnc23 := NB442_459.out; have hnb24 := NB459_448.out; have hnc24 := NB448_459.out; obtain ⟨hcz25_0, hcz25_1, hcz25_2, hcz25_3, hcz25_4, hcz25_5, hcz25_6, hcz25_7, hcz25_8, hfz25_0, hfz25_1, hfz25_2, hfz25_3, hfz25_4, hfz25_5, hfz25_6, hfz25_7, hfz25_8⟩ := bC9 BK459; obtain ⟨hcz26_0, hcz26_1, hcz26_2, hcz26_3, hcz26_4, hcz26_5, hcz26_6, hcz26_7, hfz26_0, hfz26_1, hfz26_2, hfz26_3, hfz26_4, hfz26_5, hfz26_6, hfz26_7⟩ := bC8 BK448)
 go_roundg k1
 case measure => have := HK1.out; omega
 case rel => exact ⟨_, _, rr, H', ⟨by have := HK1.out; omega⟩, ⟨by exact Kd.R_mono (rT HO_4 BK459 (by decide)) (fun _ hk => trivial)⟩, ⟨bF BK441 (nC NB441_459 nN)⟩, ⟨bF BK442 (nC NB442_459 nN)⟩, ⟨by exact lT HB (gC GE441 (gC GE442 (gC GE448 (gC GE459 gN))))⟩⟩
 }
 {
 replace c15 := Bool.eq_false_iff.mpr c15
 subst c15
 rw [if_neg (show ¬ (false = true) by decide)] at H
 obtain ⟨t460, A27, H⟩ := eb H
 try dsimp only at H
 have H' := Aside0.mk H
 clear H
 refine ⟨?_⟩
 go_wp2_with (first | ((with_reducible refine gate_dst (N := 7) rfl ?_); refine bx 7 #[.int .i64 0, .int .i64 0, .int .i64 0, .int .i64 0, .int .i64 0, .int .i64 0, .string (⟨#[]⟩ : ByteArray), .string (⟨#[]⟩ : ByteArray), .string (⟨#[]⟩ : ByteArray)] 32 ?_; intro gb459 hg w33 hbox hb; replace HO_4 := rB HO_4 hb; replace BK459 := ak (hbox); replace GW459 := ak (bz hg (lT HB (gC GE441 (gC GE442 (gC GE448 gN))))); replace GE459 := ak (bz hg (lT HB (gC GE441 (gC GE442 (gC GE448 gN))))); replace HB := ak (below_step (lT HB (gC GE441 (gC GE442 (gC GE448 gN)))) hb); replace NB441_459 := ak (nl hg (bG BK441)); replace NB459_441 := ak (ng hg (bG BK441)); replace BK441 := bB BK441 hb; replace NB442_459 := ak (nl hg (bG BK442)); replace NB459_442 := ak (ng hg (bG BK442)); replace BK442 := bB BK442 hb; replace NB448_459 := ak (nl hg (bG BK448)); replace NB459_448 := ak (ng hg (bG BK448)); replace BK448 := bB BK448 hb; clear hb hbox hg; have hnb34 := NB459_441.out; have hnc34 := NB441_459.out; have hnb35 := NB459_442.out; have hnc35 := NB442_459.out; have hnb36 := NB459_448.out; have hnc36 := NB448_459.out; obtain ⟨hcz37_0, hcz37_1, hcz37_2, hcz37_3, hcz37_4, hcz37_5, hcz37_6, hcz37_7, hcz37_8, hfz37_0, hfz37_1, hfz37_2, hfz37_3, hfz37_4, hfz37_5, hfz37_6, hfz37_7, hfz37_8⟩ := bC9 BK459; obtain ⟨hcz38_0, hcz38_1, hcz38_2, hcz38_3, hcz38_4, hcz38_5, hcz38_6, hcz38_7, hfz38_0, hfz38_1, hfz38_2, hfz38_3, hfz38_4, hfz38_5, hfz38_6, hfz38_7⟩ := bC8 BK448; obtain ⟨Ao39, co39, eo39⟩ := Kd.R_slice HO_4.out; subst eo39) | ((with_reducible refine gate_callee (f := 81) rfl ?_); refine gl (some 45) Try.func81 #[.slice Ao39 x4_1.length co39, .int .i64 ((rd_T32 l0 x5_1).f1.f1)] ?_; (with_reducible refine (spec_l07Sorted.calls k1 _ _ x4_1 ((rd_T32 l0 x5_1).f1.f1) t460 _ ?side1 ?side2 A27.out).mono ?_); (case side1 => exact (Kd.R_reads' (rT HO_4 BK459 (by decide))).2.2); (case side2 => exact (Kd.R_reads' HO_4.out).2.1); rintro e w40 ⟨v461, rfl, ho0, hb⟩; refine ⟨_, rfl, ?_⟩; replace HO462 := ak (Kd.R_lower (Kd.R_new' ho0 (Kd.R_lt (rT HO_4 BK459 (by decide)))) (below_size (lT HB (gC GE441 (gC GE442 (gC GE448 (gC GE459 gN))))))); replace HO_4 := ak (Kd.R_elder' (rT HO_4 BK459 (by decide)) (Kd.R_base ho0) hb); replace BK441 := ak (blk_below (bT BK441 (nC NB441_459 nN)) hb); replace BK442 := ak (blk_below (bT BK442 (nC NB442_459 nN)) hb); replace BK448 := ak (blk_below (bT BK448 (nC NB448_459 nN)) hb); replace BK459 := ak (blk_below (g := gb459) (o := .cells #[.int .i64 t449, .int .i64 t450, .int .i64 t451, .int .i64 t452, .int .i64 t453, .int .i64 t454, .string t455, .string t456, .string t457] 32 (0, 0)) (bW BK459) hb); replace HB := ak (below_step (lT HB (gC GE441 (gC GE442 (gC GE448 (gC GE459 gN))))) hb); (try clear hb); (try clear hk); (try clear ho0)))
 go_roundg k1
 case measure => have := HK1.out; omega
 case rel => exact ⟨_, _, rr, H', ⟨by have := HK1.out; omega⟩, ⟨by (with_reducible repeat (first | apply Kd.R_alloc | apply Kd.R_drewN | apply Kd.R_drew)); exact Kd.R_mono HO462.out (fun _ hk => trivial)⟩, ⟨bG BK441⟩, ⟨bG BK442⟩, ⟨by exact lT HB (gC GE441 (gC GE442 (gC GE448 (gC GE459 gN))))⟩⟩
 }
 }
 {
 rw [if_neg c14] at H
 have c14b0 := beq_eq_false_iff_ne.mpr c14
 have c14b1 := bne_iff_ne.mpr c14
 have H' := Aside0.mk H
 clear H
 refine ⟨?_⟩
 go_wp2_with ((with_reducible refine gate_dst (N := 7) rfl ?_); refine bx 7 #[.int .i64 0, .int .i64 0, .int .i64 0, .int .i64 0, .int .i64 0, .int .i64 0, .string (⟨#[]⟩ : ByteArray), .string (⟨#[]⟩ : ByteArray), .string (⟨#[]⟩ : ByteArray)] 32 ?_; intro gb459 hg w46 hbox hb; replace HO_4 := rB HO_4 hb; replace BK459 := ak (hbox); replace GW459 := ak (bz hg (lT HB (gC GE441 (gC GE442 (gC GE448 gN))))); replace GE459 := ak (bz hg (lT HB (gC GE441 (gC GE442 (gC GE448 gN))))); replace HB := ak (below_step (lT HB (gC GE441 (gC GE442 (gC GE448 gN)))) hb); replace NB441_459 := ak (nl hg (bG BK441)); replace NB459_441 := ak (ng hg (bG BK441)); replace BK441 := bB BK441 hb; replace NB442_459 := ak (nl hg (bG BK442)); replace NB459_442 := ak (ng hg (bG BK442)); replace BK442 := bB BK442 hb; replace NB448_459 := ak (nl hg (bG BK448)); replace NB459_448 := ak (ng hg (bG BK448)); replace BK448 := bB BK448 hb; clear hb hbox hg; have hnb47 := NB459_441.out; have hnc47 := NB441_459.out; have hnb48 := NB459_442.out; have hnc48 := NB442_459.out; have hnb49 := NB459_448.out; have hnc49 := NB448_459.out; obtain ⟨hcz50_0, hcz50_1, hcz50_2, hcz50_3, hcz50_4, hcz50_5, hcz50_6, hcz50_7, hcz50_8, hfz50_0, hfz50_1, hfz50_2, hfz50_3, hfz50_4, hfz50_5, hfz50_6, hfz50_7, hfz50_8⟩ := bC9 BK459; obtain ⟨hcz51_0, hcz51_1, hcz51_2, hcz51_3, hcz51_4, hcz51_5, hcz51_6, hcz51_7, hfz51_0, hfz51_1, hfz51_2, hfz51_3, hfz51_4, hfz51_5, hfz51_6, hfz51_7⟩ := bC8 BK448)
 go_roundg k1
 case measure => have := HK1.out; omega
 case rel => exact ⟨_, _, rr, H', ⟨by have := HK1.out; omega⟩, ⟨by exact Kd.R_mono (rT HO_4 BK459 (by decide)) (fun _ hk => trivial)⟩, ⟨bF BK441 (nC NB441_459 nN)⟩, ⟨bF BK442 (nC NB442_459 nN)⟩, ⟨by exact lT HB (gC GE441 (gC GE442 (gC GE448 (gC GE459 gN))))⟩⟩
 }
 }
 {rw [if_neg c12] at H;exact absurd H (by simp)}
 }
 {
 rw [if_neg c11] at H
 have c11b0 := decide_eq_false c11
 clear c11
 have H' := Aside0.mk H
 clear H
 go_wp2
 go_loopg [9] k1 (fun kq v9 w' => ∃ (x9_2 : Int) (x443000_2 : List (S66)) (u443000 : Value), v9 = .int .i64 x9_2 ∧ Aside0 (spec_StateOf.l1 kq l0 x4_1 x9_2 x443000_2 = some r) ∧ Aside0 (kq ≤ k1) ∧ Aside0 (Kd.R (Kd.int .i64) 3 w' w.heap.size (fun _ => True) u4 x4_1) ∧ Aside0 (Kd.S k66 66 w' w.heap.size (fun _ => True) u443000 x443000_2) ∧ Aside0 (w'.heap[gb441]? = some (.cells #[(.slice none 0 0)] 60 (0, 0))) ∧ Aside0 (w'.heap[gb442]? = some (.cells #[u443000] 60 (0, 0))) ∧ Aside0 (Below w.heap.size w w'))
 case atStart => exact ⟨_, _, (.slice none 0 0), rr, H', ⟨Nat.le_refl _⟩, ⟨by (with_reducible repeat (first | apply Kd.R_alloc | apply Kd.R_drewN | apply Kd.R_drew)); exact HO_4.out⟩, ⟨by first | exact Kd.S_nil _ _ _ _ _ | exact Kd.N_nil _ _ _ _ _ | exact Kd.V_nil _ _ _ _ _ | exact Kd.Q_nil _ _ _ _ _ | exact Kd.R_nil _ _ _ _ _⟩, ⟨bG BK441⟩, ⟨bG BK442⟩, ⟨by exact lT HB (gC GE441 (gC GE442 gN))⟩⟩
 case round =>
  skip;{
 clear H'
 try clear c3 c11 c11b0 hcz7_0 hfz7_0
 obtain ⟨x9_2, x443000_2, u443000, rfl, HA, HK2, HO_4, HO_443000, BK441, BK442, HB⟩ := hrel
 cases gk with
 | zero => exact absurd HA.out (by simp [spec_StateOf.l1])
 | succ k2 =>
  skip;{
 have H := HA.out
 clear HA
 simp only [spec_StateOf.l1] at H
 by_cases c52 : x9_2 < (x4_1.length : Int)
 {
 rw [if_pos c52] at H
 have c52b0 := decide_eq_true c52
 clear c52
 by_cases c53 : 0 ≤ x9_2
 {
 rw [if_pos c53] at H
 have c53b0 := decide_eq_true c53
 clear c53
 obtain ⟨⟨t464, t465, t466, t467, t468, t469, t470, t471, t472⟩, A54, H⟩ := eb H
 try dsimp only at H
 obtain ⟨t476, A55, H⟩ := eb H
 try dsimp only at H
 obtain ⟨t478, A56, H⟩ := eb H
 try dsimp only at H
 by_cases c57 : x443000_2.length < 1954687338268
 {
 rw [if_pos c57] at H
 have LMc57 := Aside0.mk c57
 clear c57
 obtain ⟨y481, hy481⟩ : ∃ y_ : List (S66), y_ = (x443000_2 ++ [(⟨rd x4_1 x9_2, t470, t471, t476, t478⟩ : S66)]) := ⟨_, rfl⟩
 replace H : (spec_StateOf.l1 k2 l0 x4_1 (wrap64 (x9_2 + 1)) y481) = some r := by first | (rw [hy481]; with_reducible exact H) | (have H2_ := (Option.bind_some _ _).symm.trans H; rw [hy481]; with_reducible exact H2_) | (have H2_ := (Option.bind_some _ _).symm.trans H; with_reducible exact H2_) | with_reducible exact H | (rw [hy481]; exact H) | exact H
 have Ny481 := Aside0.mk hy481
 clear hy481
 have H' := Aside0.mk H
 clear H
 obtain ⟨Ao58, co58, eo58⟩ := Kd.R_slice HO_4.out
 subst eo58
 have p463 : 0 ≤ (x9_2 : Int) := oda
 have q463 : x9_2 < (x4_1.length : Int) := oda
 obtain ⟨ad463, e463, hx463_0⟩ := Kd.at_int (Kd.R_reads' HO_4.out).2.2 x9_2 p463 q463
 cases e463
 replace p463 := eq_true p463
 replace q463 := eq_true q463
 try go_wp2_with (first | ((with_reducible refine gate_callee (f := 82) rfl ?_); refine gl (some 57) Try.func82 #[.slice A0 l0.length c0, .int .i64 (rd x4_1 x9_2)] ?_; (with_reducible refine (spec_l07Tell.calls k2 _ _ l0 (rd x4_1 x9_2) t464 t465 t466 t467 t468 t469 t470 t471 t472 _ ?side1 ?side2 A54.out).mono ?_); (case side1 => exact cG (Kd.C_below HR0.out HB.out)); (case side2 => exact HC0.out); rintro e w59 ⟨rfl, hb⟩; refine ⟨_, rfl, ?_⟩; replace HO_4 := rB HO_4 hb; replace HO_443000 := ak (Kd.S_below (by (with_reducible repeat (first | apply Kd.S_alloc | apply Kd.S_drewN | apply Kd.S_drew)); exact HO_443000.out) hb); replace BK441 := bB BK441 hb; replace BK442 := bB BK442 hb; replace HB := ak (below_step (lT HB (gC GE441 (gC GE442 gN))) hb); (try clear hb); (try clear hk)) | ((with_reducible refine gate_dst (N := 10) rfl ?_); refine bx 10 #[.int .i64 0, .int .i64 0, .int .i64 0, .int .i64 0, .int .i64 0, .int .i64 0, .string (⟨#[]⟩ : ByteArray), .string (⟨#[]⟩ : ByteArray), .string (⟨#[]⟩ : ByteArray)] 32 ?_; intro gb473 hg w60 hbox hb; replace HO_4 := rB HO_4 hb; replace HO_443000 := ak (Kd.S_below (by (with_reducible repeat (first | apply Kd.S_alloc | apply Kd.S_drewN | apply Kd.S_drew)); exact HO_443000.out) hb); replace BK473 := ak (hbox); replace GW473 := ak (bz hg (lT HB (gC GE441 (gC GE442 gN)))); replace GE473 := ak (bz hg (lT HB (gC GE441 (gC GE442 gN)))); replace HB := ak (below_step (lT HB (gC GE441 (gC GE442 gN))) hb); replace NB441_473 := ak (nl hg (bG BK441)); replace NB473_441 := ak (ng hg (bG BK441)); replace BK441 := bB BK441 hb; replace NB442_473 := ak (nl hg (bG BK442)); replace NB473_442 := ak (ng hg (bG BK442)); replace BK442 := bB BK442 hb; clear hb hbox hg; have hnb61 := NB473_441.out; have hnc61 := NB441_473.out; have hnb62 := NB473_442.out; have hnc62 := NB442_473.out; obtain ⟨_, _, _, _, _, _, _, _, _, _, _, _, _, _, _, _, _, _⟩ := bC9 BK473))
 obtain ⟨w64, eW_⟩ : ∃ w_, w_ = (((((((((w60.setCell ⟨gb473, 0, none⟩ (.int .i64 t464)).setCell ⟨gb473, 1, none⟩ (.int .i64 t465)).setCell ⟨gb473, 2, none⟩ (.int .i64 t466)).setCell ⟨gb473, 3, none⟩ (.int .i64 t467)).setCell ⟨gb473, 4, none⟩ (.int .i64 t468)).setCell ⟨gb473, 5, none⟩ (.int .i64 t469)).setCell ⟨gb473, 6, none⟩ (.string t470)).setCell ⟨gb473, 7, none⟩ (.string t471)).setCell ⟨gb473, 8, none⟩ (.string t472)) := ⟨_, rfl⟩
 have n0_ : Aside0 (Kd.R (Kd.int .i64) 3 w64 w.heap.size (fun _ => True) (.slice (some ad463) x4_1.length co58) x4_1) := by rw [eW_]; exact ⟨by exact Kd.R_mono (rT HO_4 BK473 (by decide)) (fun _ hk => trivial)⟩
 have n1_ : Aside0 (Kd.S k66 66 w64 w.heap.size (fun _ => True) u443000 x443000_2) := by rw [eW_]; exact ⟨by (with_reducible repeat (first | apply Kd.S_alloc | apply Kd.S_drewN | apply Kd.S_drew)); exact Kd.S_mono (Kd.S_far (p := ⟨gb473, 8, none⟩) (Kd.S_far (p := ⟨gb473, 7, none⟩) (Kd.S_far (p := ⟨gb473, 6, none⟩) (Kd.S_far (p := ⟨gb473, 5, none⟩) (Kd.S_far (p := ⟨gb473, 4, none⟩) (Kd.S_far (p := ⟨gb473, 3, none⟩) (Kd.S_far (p := ⟨gb473, 2, none⟩) (Kd.S_far (p := ⟨gb473, 1, none⟩) (Kd.S_far (p := ⟨gb473, 0, none⟩) (Kd.S_types HO_443000.out BK473.out (by decide)) (fun _ hk => hk.2) (.int .i64 t464)) (fun _ hk => hk.2) (.int .i64 t465)) (fun _ hk => hk.2) (.int .i64 t466)) (fun _ hk => hk.2) (.int .i64 t467)) (fun _ hk => hk.2) (.int .i64 t468)) (fun _ hk => hk.2) (.int .i64 t469)) (fun _ hk => hk.2) (.string t470)) (fun _ hk => hk.2) (.string t471)) (fun _ hk => hk.2) (.string t472)) (fun _ hk => trivial)⟩
 have n2_ : Aside0 (w64.heap[gb441]? = some (.cells #[.slice none 0 0] 60 (0, 0))) := by rw [eW_]; exact ⟨bF BK441 (nC NB441_473 nN)⟩
 have n3_ : Aside0 (w64.heap[gb442]? = some (.cells #[u443000] 60 (0, 0))) := by rw [eW_]; exact ⟨bF BK442 (nC NB442_473 nN)⟩
 have n4_ : Aside0 (w64.heap[gb473]? = some (.cells #[.int .i64 t464, .int .i64 t465, .int .i64 t466, .int .i64 t467, .int .i64 t468, .int .i64 t469, .string t470, .string t471, .string t472] 32 (0, 0))) := by rw [eW_]; exact ⟨bW BK473⟩
 have n5_ : Aside0 (Below w.heap.size w w64) := by rw [eW_]; exact ⟨by exact lT HB (gC GE441 (gC GE442 (gC GE473 gN)))⟩
 try clear HO_4 HO_443000 BK441 BK442 BK473 HB
 rw [← eW_];clear eW_
 have HO_4 := n0_
 have HO_443000 := n1_
 have BK441 := n2_
 have BK442 := n3_
 have BK473 := n4_
 have HB := n5_
 clear n0_ n1_ n2_ n3_ n4_ n5_
 replace HO_4 := ak (Kd.R_drew HO_4.out)
 replace HO_443000 := ak (Kd.S_drew HO_443000.out)
 replace BK441 := ak (blk_drew BK441.out)
 replace BK442 := ak (blk_drew BK442.out)
 replace BK473 := ak (blk_drew BK473.out)
 replace HB := ak (below_drew1 HB.out)
 have p474 : 0 ≤ (x9_2 : Int) := oda
 have q474 : x9_2 < (x4_1.length : Int) := oda
 obtain ⟨ad474, e474, hx474_0⟩ := Kd.at_int (Kd.R_reads' HO_4.out).2.2 x9_2 p474 q474
 obtain rfl : ad463 = ad474 := (by injection e474)
 replace p474 := eq_true p474
 replace q474 := eq_true q474
 have p475 : 0 ≤ (x9_2 : Int) := oda
 have q475 : x9_2 < (x4_1.length : Int) := oda
 obtain ⟨ad475, e475, hx475_0⟩ := Kd.at_int (Kd.R_reads' HO_4.out).2.2 x9_2 p475 q475
 obtain rfl : ad463 = ad475 := (by injection e475)
 replace p475 := eq_true p475
 replace q475 := eq_true q475
 have p477 : 0 ≤ (x9_2 : Int) := oda
 have q477 : x9_2 < (x4_1.length : Int) := oda
 obtain ⟨ad477, e477, hx477_0⟩ := Kd.at_int (Kd.R_reads' HO_4.out).2.2 x9_2 p477 q477
 obtain rfl : ad463 = ad477 := (by injection e477)
 replace p477 := eq_true p477
 replace q477 := eq_true q477
 refine start_ (n := 29) (S := fun w' => w'.cell? ⟨gb442, 0, none⟩ = some (u443000) ∧ w'.cell? ⟨gb473, 0, none⟩ = some (.int .i64 t464) ∧ w'.cell? ⟨gb473, 1, none⟩ = some (.int .i64 t465) ∧ w'.cell? ⟨gb473, 2, none⟩ = some (.int .i64 t466) ∧ w'.cell? ⟨gb473, 3, none⟩ = some (.int .i64 t467) ∧ w'.cell? ⟨gb473, 4, none⟩ = some (.int .i64 t468) ∧ w'.cell? ⟨gb473, 5, none⟩ = some (.int .i64 t469) ∧ w'.cell? ⟨gb473, 6, none⟩ = some (.string t470) ∧ w'.cell? ⟨gb473, 7, none⟩ = some (.string t471) ∧ w'.cell? ⟨gb473, 8, none⟩ = some (.string t472) ∧ w'.cell? (ad463.add (x9_2).toNat) = some (.int .i64 (rd x4_1 x9_2)) ∧ w'.cell? (ad463.add (x9_2).toNat) = some (.int .i64 (rd x4_1 x9_2)) ∧ w'.cell? (ad463.add (x9_2).toNat) = some (.int .i64 (rd x4_1 x9_2))) (ds := [26, 28]) (fb 29 0) (by kernel_rfl) rfl rfl ⟨bc BK442 0, bc BK473 0, bc BK473 1, bc BK473 2, bc BK473 3, bc BK473 4, bc BK473 5, bc BK473 6, bc BK473 7, bc BK473 8, hx474_0, hx475_0, hx477_0⟩ (fun hHeld => ?_); refine with_tabW spec_StateOf.tab16 spec_StateOf.bits16 (fun HT_ HW_ => ?_)
 generalize w64.drew = w65 at HO_4 HO_443000 BK441 BK442 BK473 HB hx474_0 hx475_0 hx477_0 hHeld ⊢
 refine pu 0 58 (fb 29 1) HT_ ?_
 refine pu 2 60 (fb 29 5) HT_ ?_
 refine pu 3 61 (fb 29 13) HT_ ?_
 refine pu 4 62 (fb 29 29) HT_ ?_
 refine pu 6 64 (fb 29 93) HT_ ?_
 refine pu 7 65 (fb 29 221) HT_ ?_
 refine pu 9 67 (fb 29 733) HT_ ?_
 refine pu 10 68 (fb 29 1757) HT_ ?_
 refine pu 12 70 (fb 29 5853) HT_ ?_
 refine pu 13 71 (fb 29 14045) HT_ ?_
 refine pu 14 72 (fb 29 30429) HT_ ?_
 refine pu 15 73 (fb 29 63197) HT_ ?_
 refine pu 18 76 (fb 29 325341) HT_ ?_
 refine pu 19 77 (fb 29 849629) HT_ ?_
 refine pu 20 78 (fb 29 1898205) HT_ ?_
 refine pu 21 79 (fb 29 3995357) HT_ ?_
 refine tk 1 59 (fb 29 3995359) HT_ HW_ hHeld ?_
 refine tk 5 63 (fb 29 3995391) HT_ HW_ hHeld ?_
 refine tk 8 66 (fb 29 3995647) HT_ HW_ hHeld ?_
 refine tk 11 69 (fb 29 3997695) HT_ HW_ hHeld ?_
 refine tk 16 74 (fb 29 4063231) HT_ HW_ hHeld ?_
 refine tk 22 80 (fb 29 8257535) HT_ HW_ hHeld ?_
 refine on 17 (some 75) (fb 29 8388607) HT_ (fun K hK => ?_)
 refine gs Try.func83 #[.slice A0 l0.length c0, .int .i64 (rd x4_1 x9_2)] ?_
 with_reducible refine (spec_l07Next.calls k2 _ _ l0 (rd x4_1 x9_2) t476 _ ?side1 ?side2 A55.out).mono ?_
 (case side1 => exact cG (Kd.C_below HR0.out HB.out))
 (case side2 => exact HC0.out)
 rintro e w66 ⟨rfl, hb⟩
 have HS10_ := (hb.cell (World.block_lt_of_cell? _ _ (hHeld.2.2.2.2.2.2.2.2.2.2.1))).trans (hHeld.2.2.2.2.2.2.2.2.2.2.1)
 have HS11_ := (hb.cell (World.block_lt_of_cell? _ _ (hHeld.2.2.2.2.2.2.2.2.2.2.2.1))).trans (hHeld.2.2.2.2.2.2.2.2.2.2.2.1)
 have HS12_ := (hb.cell (World.block_lt_of_cell? _ _ (hHeld.2.2.2.2.2.2.2.2.2.2.2.2))).trans (hHeld.2.2.2.2.2.2.2.2.2.2.2.2)
 refine ⟨_, rfl, ?_⟩
 replace HO_4 := rB HO_4 hb
 replace HO_443000 := ak (Kd.S_below (by (with_reducible repeat (first | apply Kd.S_alloc | apply Kd.S_drewN | apply Kd.S_drew)); exact HO_443000.out) hb)
 replace BK441 := bB BK441 hb
 replace BK442 := bB BK442 hb
 replace BK473 := bB BK473 hb
 replace HB := ak (below_step (lT HB (gC GE441 (gC GE442 (gC GE473 gN)))) hb)
 try clear hb hk
 refine hK.out _ _ ⟨bc BK442 0, bc BK473 0, bc BK473 1, bc BK473 2, bc BK473 3, bc BK473 4, bc BK473 5, bc BK473 6, bc BK473 7, bc BK473 8, HS10_, HS11_, HS12_⟩ (fun hHeld => ?_)
 clear hK K
 refine nm ?_
 refine on 23 (some 81) (fb 29 16777215) HT_ (fun K hK => ?_)
 refine gs Try.func84 #[.slice A0 l0.length c0, .int .i64 (rd x4_1 x9_2)] ?_
 with_reducible refine (spec_l07Mails.calls k2 _ _ l0 (rd x4_1 x9_2) t478 _ ?side1 ?side2 A56.out).mono ?_
 (case side1 => exact cG (Kd.C_below HR0.out HB.out))
 (case side2 => exact HC0.out)
 rintro e w67 ⟨v479, rfl, ho0, hb⟩
 have HS10_ := (hb.cell (World.block_lt_of_cell? _ _ (hHeld.2.2.2.2.2.2.2.2.2.2.1))).trans (hHeld.2.2.2.2.2.2.2.2.2.2.1)
 have HS11_ := (hb.cell (World.block_lt_of_cell? _ _ (hHeld.2.2.2.2.2.2.2.2.2.2.2.1))).trans (hHeld.2.2.2.2.2.2.2.2.2.2.2.1)
 have HS12_ := (hb.cell (World.block_lt_of_cell? _ _ (hHeld.2.2.2.2.2.2.2.2.2.2.2.2))).trans (hHeld.2.2.2.2.2.2.2.2.2.2.2.2)
 refine ⟨_, rfl, ?_⟩
 replace HO_4 := rB HO_4 hb
 replace HO_443000 := ak (Kd.S_elder' (by (with_reducible repeat (first | apply Kd.S_alloc | apply Kd.S_drewN | apply Kd.S_drew)); exact HO_443000.out) (Kd.R_base ho0) hb)
 replace HO480 := ak (Kd.R_lower ho0 (below_size (lT HB (gC GE441 (gC GE442 (gC GE473 gN))))))
 replace BK441 := bB BK441 hb
 replace BK442 := bB BK442 hb
 replace BK473 := bB BK473 hb
 replace HB := ak (below_step (lT HB (gC GE441 (gC GE442 (gC GE473 gN)))) hb)
 try clear hb hk ho0
 obtain ⟨Ao68, co68, eo68⟩ := Kd.R_slice HO480.out
 (first | subst eo68 | (injection eo68 with f1_ f2_ f3_; have f4_ := f1_.symm; have f5_ := f3_.symm; clear f1_ f2_ f3_; subst f4_; subst f5_))
 refine hK.out _ _ ⟨bc BK442 0, bc BK473 0, bc BK473 1, bc BK473 2, bc BK473 3, bc BK473 4, bc BK473 5, bc BK473 6, bc BK473 7, bc BK473 8, HS10_, HS11_, HS12_⟩ (fun hHeld => ?_)
 clear hK K
 refine nm ?_
 refine pu 24 82 (fb 29 33554431) HT_ ?_
 refine on 25 (some 83) (fb 29 67108863) HT_ (fun K hK => ?_)
 refine value_ (w1 := ?_) (v := ?_) (by rfl) rfl ?_ ?_
 rotate_left 2
 {
 go_simp
 constructor
 {
 rfl
 }
 {
 rfl
 }
 }
 refine hK.out _ _ ⟨(blk_cell (blk_alloc BK442.out _) 0).trans rfl, (blk_cell (blk_alloc BK473.out _) 0).trans rfl, (blk_cell (blk_alloc BK473.out _) 1).trans rfl, (blk_cell (blk_alloc BK473.out _) 2).trans rfl, (blk_cell (blk_alloc BK473.out _) 3).trans rfl, (blk_cell (blk_alloc BK473.out _) 4).trans rfl, (blk_cell (blk_alloc BK473.out _) 5).trans rfl, (blk_cell (blk_alloc BK473.out _) 6).trans rfl, (blk_cell (blk_alloc BK473.out _) 7).trans rfl, (blk_cell (blk_alloc BK473.out _) 8).trans rfl, (World.cell?_alloc_lt _ _ _ (World.block_lt_of_cell? _ _ (hHeld.2.2.2.2.2.2.2.2.2.2.1))).trans (hHeld.2.2.2.2.2.2.2.2.2.2.1), (World.cell?_alloc_lt _ _ _ (World.block_lt_of_cell? _ _ (hHeld.2.2.2.2.2.2.2.2.2.2.2.1))).trans (hHeld.2.2.2.2.2.2.2.2.2.2.2.1), (World.cell?_alloc_lt _ _ _ (World.block_lt_of_cell? _ _ (hHeld.2.2.2.2.2.2.2.2.2.2.2.2))).trans (hHeld.2.2.2.2.2.2.2.2.2.2.2.2)⟩ (fun hHeld => ?_)
 clear hK K
 refine nm ?_
 refine last_ (i := 26) (N := some 84) #[t_,t_,t_,t_,t_,t_,t_,t_,t_,t_,t_,t_,t_,t_,t_,t_,t_,t_,t_,t_,t_,t_,t_,t_,t_,t_,t_,f_,f_] rfl rfl (one_of HT_.out (by kernel_rfl)) (by decide) (fun K hK => ?_)
 refine Kd.S_append_step k66 (w0 := w) w.heap.size (by rfl) (.tmp 59) (.tmp 83) 58 66 (.agg #[(.int .i64 0), (.string ⟨#[]⟩), (.string ⟨#[]⟩), (.int .i64 0), (.slice none 0 0)]) 72 rfl Try.underlying58 info66 rfl (by decide) (by omega) u443000 x443000_2 (⟨rd x4_1 x9_2, t470, t471, t476, t478⟩ : S66) [.int .i64 (rd x4_1 x9_2), .string t470, .string t471, .int .i64 t476, .slice Ao68 t478.length co68] (fun _ => True) (fun k_ => some k_ = (.slice Ao68 t478.length co68 : Value).ownBlock) rfl rfl ?aP (fun k_ hk_ => ((Kd.R_mono (ok' := fun k_ => ((fun _ => True)) k_ ∧ some k_ ≠ (u443000 : Value).ownBlock) (Kd.R_apart' (HO480.out) (Kd.S_typed HO_443000.out) (by decide)) (fun k_ hk => ⟨trivial, hk.2⟩))).1 k_ hk_.symm) ?aF ?aO ?aB ?aS ?aL ?_
 (case aP => exact k66_mkM _ _ _ (⟨rd x4_1 x9_2, t470, t471, t476, t478⟩ : S66) (Kd.R_mono (Kd.R_tight rfl (Kd.R_mono (ok' := fun k_ => ((fun _ => True)) k_ ∧ some k_ ≠ (u443000 : Value).ownBlock) (Kd.R_apart' (HO480.out) (Kd.S_typed HO_443000.out) (by decide)) (fun k_ hk => ⟨trivial, hk.2⟩))) (fun _ h_ => h_)))
 (case aB => exact (lT HB (gC GE441 (gC GE442 (gC GE473 gN)))))
 (case aF => exact (fun _ _ => trivial))
 (case aO => exact (by (with_reducible repeat (first | apply Kd.S_alloc | apply Kd.S_drewN | apply Kd.S_drew)); exact Kd.S_mono HO_443000.out (fun k_ hk => ⟨trivial, fun e_ => hk.2 e_⟩)))
 (case aS => exact (below_size (lT HB (gC GE441 (gC GE442 (gC GE473 gN))))))
 (case aL => have := LMc57.out; omega)
 intro v482 w69 ho hb hg hat
 rw [← Ny481.out] at ho
 have n0_ := ak (Kd.R_over' (rG HO_4) (Kd.S_typed (by (with_reducible repeat (first | apply Kd.S_alloc | apply Kd.S_drewN | apply Kd.S_drew)); exact HO_443000.out)) (by decide) hg)
 have n1_ := ak (blk_grown (g := gb441) (o := .cells #[.slice none 0 0] 60 (0, 0)) (bG BK441) hg (Kd.S_ne HO_443000.out BK441.out (by decide)))
 have n2_ := ak (blk_grown (g := gb442) (o := .cells #[u443000] 60 (0, 0)) (bG BK442) hg (Kd.S_ne HO_443000.out BK442.out (by decide)))
 have n3_ := ak (blk_grown (g := gb473) (o := .cells #[.int .i64 t464, .int .i64 t465, .int .i64 t466, .int .i64 t467, .int .i64 t468, .int .i64 t469, .string t470, .string t471, .string t472] 32 (0, 0)) (bG BK473) hg (Kd.S_ne HO_443000.out BK473.out (by decide)))
 have n4_ := ak (hb)
 have n5_ := ak (ho)
 clear HO_4
 clear BK441
 clear BK442
 clear BK473
 clear HB
 clear HO_443000
 clear HO480
 have HO_4 := n0_
 have BK441 := n1_
 have BK442 := n2_
 have BK473 := n3_
 have HB := n4_
 have HO483 := n5_
 clear n0_ n1_ n2_ n3_ n4_ n5_
 clear ho hb hg hat
 obtain ⟨Ao70, co70, eo70⟩ := Kd.S_slice HO483.out
 (first | subst eo70 | (injection eo70 with f1_ f2_ f3_; have f4_ := f1_.symm; have f5_ := f3_.symm; clear f1_ f2_ f3_; subst f4_; subst f5_))
 refine hK.out _ _ ?_
 clear hK K
 refine nm ?_
 refine pu 27 85 (fb 29 268435455) HT_ ?_
 refine last_ (i := 28) (N := none) #[t_,t_,t_,t_,t_,t_,t_,t_,t_,t_,t_,t_,t_,t_,t_,t_,t_,t_,t_,t_,t_,t_,t_,t_,t_,t_,t_,t_,t_] rfl rfl (one_of HT_.out (by kernel_rfl)) (by decide) (fun K hK => ?_)
 have hs71 : w69.cell? ⟨gb442, 0, none⟩ = some (u443000) := bc BK442 0
 have hfs71 := blk_frozen BK442.out 0
 have hns71_0 := NB441_442.out
 have hns71_2 := NB473_442.out
 have hms71_0 := NB442_441.out
 have hms71_2 := NB442_473.out
 refine skip_ (w1 := ?_) (by rfl) rfl ?_ ?_
 rotate_left
 {
 go_simp
 rfl
 }
 refine hK.out _ _ ?_
 clear hK K
 refine done_ (done_of HT_.out (by kernel_rfl)) ?_
 try go_wp2
 go_roundg k2
 case measure => have := HK1.out; have := HK2.out; omega
 case rel => exact ⟨_, _, (.slice Ao70 y481.length co70), rr, H', ⟨by have := HK1.out; have := HK2.out; omega⟩, ⟨by exact Kd.R_mono (rT HO_4 BK442 (by decide)) (fun _ hk => trivial)⟩, ⟨by (with_reducible repeat (first | apply Kd.S_alloc | apply Kd.S_drewN | apply Kd.S_drew)); exact Kd.S_mono (Kd.S_far (p := ⟨gb442, 0, none⟩) (Kd.S_types HO483.out BK442.out (by decide)) (fun _ hk => hk.2) (.slice Ao70 y481.length co70)) (fun _ hk => trivial)⟩, ⟨bF BK441 (nC NB441_442 nN)⟩, ⟨bW BK442⟩, ⟨by exact lT HB (gC GE441 (gC GE442 (gC GE473 gN)))⟩⟩
 }
 {rw [if_neg c57] at H;exact absurd H (by simp)}
 }
 {rw [if_neg c53] at H;exact absurd H (by simp)}
 }
 {
 rw [if_neg c52] at H
 have c52b0 := decide_eq_false c52
 clear c52
 obtain rfl := Option.some.inj H
 obtain ⟨Ao72, co72, eo72⟩ := Kd.R_slice HO_4.out
 subst eo72
 have hnb73 := NB442_441.out
 have hnc73 := NB441_442.out
 obtain ⟨_, _⟩ := bC1 BK442
 obtain ⟨Ao75, co75, eo75⟩ := Kd.S_slice HO_443000.out
 subst eo75
 obtain ⟨_, _⟩ := bC1 BK441
 go_wp2
 refine bodyPost_ret (results_cell_row rfl _ _ gb441 60 #[.slice Ao75 x443000_2.length co75] (0, 0) _ rfl (bW BK441) Try.underlying60 rfl (by kernel_rfl)) rfl ?_
 exact ⟨_, ew, by (with_reducible repeat (first | apply Kd.S_alloc | apply Kd.S_drewN | apply Kd.S_drew)); exact Kd.S_mono (Kd.S_far (p := ⟨gb441, 0, none⟩) (Kd.S_types HO_443000.out BK441.out (by decide)) (fun _ hk => hk.2) (.slice Ao75 x443000_2.length co75)) (fun _ hk => trivial), by exact lT HB (gC GE441 (gC GE442 gN))⟩
 }
 }
 }
 }
 }
 }
 }
 {
 replace c3 := Bool.eq_false_iff.mpr c3
 subst c3
 rw [if_neg (show ¬ (false = true) by decide)] at H
 obtain rfl := Option.some.inj H
 go_enter Try.func38, Try.ntmps38
 go_wp2_with (first | ((with_reducible refine gate_dst (N := 2) rfl ?_); refine bx 2 #[.slice none 0 0] 60 ?_; intro gb441 hg w77 hbox hb; replace BK441 := ak (hbox); replace GE441 := ak (bz hg (lG HB)); replace HB := lB HB hb; clear hb hbox hg) | ((with_reducible refine gate_dst (N := 3) rfl ?_); refine bx 3 #[.slice none 0 0] 60 ?_; intro gb442 hg w78 hbox hb; replace BK442 := ak (hbox); replace GW442 := ak (bz hg (lT HB (gC GE441 gN))); replace GE442 := ak (bz hg (lT HB (gC GE441 gN))); replace HB := ak (below_step (lT HB (gC GE441 gN)) hb); replace NB441_442 := ak (nl hg (bG BK441)); replace NB442_441 := ak (ng hg (bG BK441)); replace BK441 := bB BK441 hb; clear hb hbox hg; have hnb79 := NB442_441.out; have hnc79 := NB441_442.out; obtain ⟨_, _⟩ := bC1 BK442) | ((with_reducible refine gate_callee (f := 19) rfl ?_); refine gl (some 13) Try.func19 #[.slice A0 l0.length c0] ?_; (with_reducible refine (spec_ItemsOk.calls k _ _ l0 _ _ ?side1 ?side2 A2.out).mono ?_); (case side1 => exact Kd.C_below HR0.out (lT HB (gC GE441 (gC GE442 gN)))); (case side2 => exact HC0.out); rintro e w81 ⟨rfl, hb⟩; refine ⟨_, rfl, ?_⟩; replace BK441 := ak (blk_below (bT BK441 (nC NB441_442 nN)) hb); replace BK442 := ak (blk_below (g := gb442) (o := .cells #[.slice none 0 0] 60 (0, 0)) (bW BK442) hb); replace HB := ak (below_step (lT HB (gC GE441 (gC GE442 gN))) hb); (try clear hb); (try clear hk); obtain ⟨_, _⟩ := bC1 BK442; obtain ⟨_, _⟩ := bC1 BK441))
 refine bodyPost_ret (results_cell_row rfl _ _ gb441 60 #[.slice none 0 0] (0, 0) _ rfl (bW BK441) Try.underlying60 rfl (by kernel_rfl)) rfl ?_
 exact ⟨_, ew, by first | exact Kd.S_nil _ _ _ _ _ | exact Kd.N_nil _ _ _ _ _ | exact Kd.V_nil _ _ _ _ _ | exact Kd.Q_nil _ _ _ _ _ | exact Kd.R_nil _ _ _ _ _, by exact lT HB (gC GE441 (gC GE442 gN))⟩
 }
end Go.Proofs.Ytagkjeldheiejaa.PFnStates
