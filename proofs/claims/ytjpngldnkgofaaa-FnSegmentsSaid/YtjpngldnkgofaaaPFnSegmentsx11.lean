-- Written for this claim by a program of mine (a turned copy of the kit's print): functions as plain Lean, and their contracts. Lean checks it.
import Derived.Test.YtjpngldnkgofaaaPFnSegmentsx0
import Derived.Test.YtjpngldnkgofaaaPFnSegmentsx1
import Derived.Test.YtjpngldnkgofaaaPFnSegmentsx5
import Derived.Test.YtjpngldnkgofaaaPFnSegmentsx8
import Derived.Test.YtjpngldnkgofaaaPFnSegmentsx9
import Derived.Test.YtjpngldnkgofaaaPFnSegmentsx10
import Derived.Test.YtjpngldnkgofaaaVFnSegments1
namespace Go.Proofs.Ytjpngldnkgofaaa.PFnSegments
open Go.RowKit Go.Proofs.YtjpngldnkgofaaaW.PrintWords Go.Proofs.YtjpngldnkgofaaaW.PrintLast Go.Proofs.YtjpngldnkgofaaaW.PrintMore
attribute [local go_sem] max2_int min2_int max_two min_two max_three min_three max_four min_four   -- for this text's walks alone
set_option linter.unusedVariables false
set_option linter.unusedSimpArgs false

/-! ### impl_SegWrite: function 24 -/
def impl_SegWrite.j0 : Nat → Int → Int → ByteArray → Bool → List ByteArray → List (S63) → Option (List ByteArray × (List (S63)) × Bool)
 | 0, _, _, _, _, _, _ => none
 | k + 1, x1, x2, x3, x24, x443000, x443001 => if x24 = true then ((impl_cloneDisk.f x443000 x443001).bind fun bt446 => (some (bt446.1, bt446.2, false))) else ((impl_SegFirst.f x1).bind fun t452 => ((impl_WriteBytes.f k x443000 x443001 t452 x2 x3).bind fun bt453 => (some (bt453.1, bt453.2.1, bt453.2.2))))
def impl_SegWrite.f (k : Nat) (l0_0 : List ByteArray) (l0_1 : List (S63)) (a1 : Int) (a2 : Int) (a3 : ByteArray) : Option (List ByteArray × (List (S63)) × Bool) := (impl_in.f a1 0 10).bind fun t444 => (if t444 = true then ((impl_in.f a2 0 256).bind fun t445 => (if t445 = true then (impl_SegWrite.j0 k a1 a2 a3 (decide ((a3.size : Int) > (wrap64 (256 - a2)))) l0_0 l0_1) else (impl_SegWrite.j0 k a1 a2 a3 true l0_0 l0_1))) else (impl_SegWrite.j0 k a1 a2 a3 true l0_0 l0_1))
theorem impl_SegWrite.mono_l : ∀ k, (∀ y0 y1 y2 y3 y4 y5, LeO (impl_SegWrite.j0 k y0 y1 y2 y3 y4 y5) (impl_SegWrite.j0 (k + 1) y0 y1 y2 y3 y4 y5))
 | 0 => fun _ _ _ _ _ _ r h => by simp [impl_SegWrite.j0] at h
 | k + 1 => by
  have ih0 := impl_SegWrite.mono_l k
  ·intro y0 y1 y2 y3 y4 y5
   unfold impl_SegWrite.j0
   repeat' first
   | (with_reducible exact ih0 _ _ _ _ _ _)
   | (with_reducible exact impl_WriteBytes.mono _ _ _ _ _ _)
   | (with_reducible exact LeO.refl _)
   | (with_reducible exact LeO.none _)
   | (with_reducible refine LeO.ite ?_ ?_)
   | (with_reducible refine LeO.bind ?_ (fun _ => ?_))
   | exact ih0 _ _ _ _ _ _
   | exact impl_WriteBytes.mono _ _ _ _ _ _
   | exact LeO.none _
   | refine LeO.ite ?_ ?_
   | refine LeO.bind ?_ (fun _ => ?_)
theorem impl_SegWrite.mono : ∀ a0 a1 a2 a3 a4 k, LeO (impl_SegWrite.f k a0 a1 a2 a3 a4) (impl_SegWrite.f (k + 1) a0 a1 a2 a3 a4) := by
 intro a0 a1 a2 a3 a4 k
 have ih0 := impl_SegWrite.mono_l k
 unfold impl_SegWrite.f
 repeat' first
   | (with_reducible exact ih0 _ _ _ _ _ _)
   | (with_reducible exact impl_WriteBytes.mono _ _ _ _ _ _)
   | (with_reducible exact LeO.refl _)
   | (with_reducible exact LeO.none _)
   | (with_reducible refine LeO.ite ?_ ?_)
   | (with_reducible refine LeO.bind ?_ (fun _ => ?_))
   | exact ih0 _ _ _ _ _ _
   | exact impl_WriteBytes.mono _ _ _ _ _ _
   | exact LeO.none _
   | refine LeO.ite ?_ ?_
   | refine LeO.bind ?_ (fun _ => ?_)
def impl_SegWrite.T3 : Bool × List (List Nat × List Nat) := (true, [([], []), ([], []), ([1], [1]), ([], []), ([], []), ([0, 2, 3, 4, 2], [0, 2, 3, 4]), ([5], [5]), ([5], [5]), ([6, 5, 0, 1, 2, 3, 4, 5, 6, 7], [6]), ([7, 8, 0, 1, 2, 3, 4, 5, 6, 7, 8], [7])])
def impl_SegWrite.B3 : List Nat := [0, 0, 2, 0, 0, 31, 63, 63, 255, 511]
theorem impl_SegWrite.tab3 : rtab .any (opsOf Try.f24 3) = impl_SegWrite.T3 := by kernel_rfl
theorem impl_SegWrite.bits3 : waitsOk impl_SegWrite.T3.2 impl_SegWrite.B3 = true := by kernel_rfl
set_option maxHeartbeats 8000000 in
set_option maxRecDepth 100000 in
theorem impl_SegWrite.calls (k : Nat) (A0_0 : Option Addr) (c0_0 : Nat) (l0_0 : List ByteArray) (A0_1 : Option Addr) (c0_1 : Nat) (l0_1 : List (S63)) (a1 : Int) (a2 : Int) (a3 : ByteArray) (r1 : List ByteArray) (r2 : List (S63)) (r3 : Bool) (w : World) (hr0_0 : Kd.C Kd.string w A0_0 l0_0.length l0_0) (hc0_0 : l0_0.length ≤ c0_0) (hr0_1 : Kd.C k63 w A0_1 l0_1.length l0_1) (hc0_1 : l0_1.length ≤ c0_1) (h : impl_SegWrite.f k l0_0 l0_1 a1 a2 a3 = some (r1, r2, r3)) :
  Calls Try.prog 24 #[.agg #[.slice A0_0 l0_0.length c0_0, .slice A0_1 l0_1.length c0_1], .int .i64 a1, .int .i64 a2, .string a3] w fun e w' => ∃ v0_ v1_ : Value, e = .returned (.tuple #[.agg #[v0_, v1_], .bool r3]) ∧ Kd.R Kd.string 9 w' w.heap.size (fun _ => True) v0_ r1 ∧ Kd.R k63 63 w' w.heap.size (fun _ => True) v1_ r2 ∧ Below w.heap.size w w' := by
 have hu27 := Try.underlying27
 have HR0_0 := Aside0.mk hr0_0
 have HC0_0 := Aside0.mk hc0_0
 clear hr0_0 hc0_0
 have HR0_1 := Aside0.mk hr0_1
 have HC0_1 := Aside0.mk hc0_1
 clear hr0_1 hc0_1
 have HB := ak (Below.refl w.heap.size w)
 have H : ((impl_in.f a1 0 10).bind fun t444 => (if t444 = true then ((impl_in.f a2 0 256).bind fun t445 => (if t445 = true then (impl_SegWrite.j0 k a1 a2 a3 (decide ((a3.size : Int) > (wrap64 (256 - a2)))) l0_0 l0_1) else (impl_SegWrite.j0 k a1 a2 a3 true l0_0 l0_1))) else (impl_SegWrite.j0 k a1 a2 a3 true l0_0 l0_1))) = some (r1, r2, r3) := h
 clear h
 have HC5 := Aside0.mk H
 clear H
 go_enter Try.func24, Try.ntmps24
 go_upto_region 1 with (first | ((with_reducible refine gate_dst (N := 4) rfl ?_); (try (refine gate_guard (by rfl) ?_; dsimp only)); refine bx 4 #[.slice A0_0 l0_0.length c0_0, .slice A0_1 l0_1.length c0_1] 27 ?_; intro gb442 hg w6 hbox hb; replace BK442 := ak (hbox); replace GW442 := ak (bz hg (lG HB)); replace GE442 := ak (bz hg (lG HB)); replace HB := lB HB hb; clear hb hbox hg) | ((with_reducible refine gate_dst (N := 8) rfl ?_); (try (refine gate_guard (by rfl) ?_; dsimp only)); refine bx 8 #[.slice none 0 0, .slice none 0 0] 27 ?_; intro gb443 hg w7 hbox hb; replace BK443 := ak (hbox); replace GW443 := ak (bz hg (lT HB (gC GE442 gN))); replace GE443 := ak (bz hg (lT HB (gC GE442 gN))); replace HB := ak (below_step (lT HB (gC GE442 gN)) hb); replace NB442_443 := ak (nl hg (bG BK442)); replace NB443_442 := ak (ng hg (bG BK442)); replace BK442 := bB BK442 hb; clear hb hbox hg))
 (try simp only [Act.put, List.setIfInBounds_toArray, List.set_cons_zero, List.set_cons_succ])
 go_cut [24] (fun v24 wc => ∃ (kq : Nat) (x24_4 : Bool), v24 = .bool x24_4 ∧ Aside0 (impl_SegWrite.j0 kq a1 a2 a3 x24_4 l0_0 l0_1 = some (r1, r2, r3)) ∧ Aside0 (kq ≤ k) ∧ Aside0 (wc.heap[gb442]? = some (.cells #[(.slice A0_0 l0_0.length c0_0), (.slice A0_1 l0_1.length c0_1)] 27 (0, 0))) ∧ Aside0 (wc.heap[gb443]? = some (.cells #[(.slice none 0 0), (.slice none 0 0)] 27 (0, 0))) ∧ Aside0 (Below w.heap.size w wc))
 case first =>
  have H := HC5.out
  clear HC5
  replace H := Option.bind_eq_some_iff.mp H
  obtain ⟨t444, A80, H⟩ := H
  replace H : (if t444 = true then ((impl_in.f a2 0 256).bind fun t445 => (if t445 = true then (impl_SegWrite.j0 k a1 a2 a3 (decide ((a3.size : Int) > (wrap64 (256 - a2)))) l0_0 l0_1) else (impl_SegWrite.j0 k a1 a2 a3 true l0_0 l0_1))) else (impl_SegWrite.j0 k a1 a2 a3 true l0_0 l0_1)) = some (r1, r2, r3) := H
  have A8 := Aside0.mk A80
  clear A80
  by_cases c9 : t444 = true
  ·subst c9
   have H1 : ((impl_in.f a2 0 256).bind fun t445 => (if t445 = true then (impl_SegWrite.j0 k a1 a2 a3 (decide ((a3.size : Int) > (wrap64 (256 - a2)))) l0_0 l0_1) else (impl_SegWrite.j0 k a1 a2 a3 true l0_0 l0_1))) = some (r1, r2, r3) := by rw [if_pos rfl] at H; exact H
   clear H
   have H := H1
   clear H1
   replace H := Option.bind_eq_some_iff.mp H
   obtain ⟨t445, A100, H⟩ := H
   replace H : (if t445 = true then (impl_SegWrite.j0 k a1 a2 a3 (decide ((a3.size : Int) > (wrap64 (256 - a2)))) l0_0 l0_1) else (impl_SegWrite.j0 k a1 a2 a3 true l0_0 l0_1)) = some (r1, r2, r3) := H
   have A10 := Aside0.mk A100
   clear A100
   by_cases c11 : t445 = true
   ·subst c11
    have H1 : (impl_SegWrite.j0 k a1 a2 a3 (decide ((a3.size : Int) > (wrap64 (256 - a2)))) l0_0 l0_1) = some (r1, r2, r3) := by rw [if_pos rfl] at H; exact H
    clear H
    have H := H1
    clear H1
    have H' := Aside0.mk H
    clear H
    go_wp2_with (first | ((with_reducible refine gate_callee (f := 50) rfl ?_); refine gl (some 11) Try.func50 #[.int .i64 a1, .int .i64 0, .int .i64 10] ?_; (with_reducible refine (impl_in.calls a1 0 10 true _ A8.out).mono ?_); rintro e w' ⟨rfl, ⟨nd, rfl⟩⟩; refine ⟨_, rfl, ?_⟩) | (go_at_call 50; (with_reducible refine (impl_in.calls a2 0 256 true _ A10.out).mono ?_); rintro e w' ⟨rfl, ⟨nd, rfl⟩⟩))
    go_meet
    case rel => exact ⟨_, (decide ((a3.size : Int) > (wrap64 (256 - a2)))), (by first | rfl | (simp; done) | (simp [*]; done)), H', ⟨by first | omega | exact Nat.le_refl _⟩, ⟨bG BK442⟩, ⟨bG BK443⟩, ⟨by exact lT HB (gC GE442 (gC GE443 gN))⟩⟩
   ·replace c11 := Bool.eq_false_iff.mpr c11
    subst c11
    have H1 : (impl_SegWrite.j0 k a1 a2 a3 true l0_0 l0_1) = some (r1, r2, r3) := by rw [if_neg (show ¬ (false = true) by decide)] at H; exact H
    clear H
    have H := H1
    clear H1
    have H' := Aside0.mk H
    clear H
    go_wp2_with (first | ((with_reducible refine gate_callee (f := 50) rfl ?_); refine gl (some 11) Try.func50 #[.int .i64 a1, .int .i64 0, .int .i64 10] ?_; (with_reducible refine (impl_in.calls a1 0 10 true _ A8.out).mono ?_); rintro e w' ⟨rfl, ⟨nd, rfl⟩⟩; refine ⟨_, rfl, ?_⟩) | (go_at_call 50; (with_reducible refine (impl_in.calls a2 0 256 false _ A10.out).mono ?_); rintro e w' ⟨rfl, ⟨nd, rfl⟩⟩))
    go_meet
    case rel => exact ⟨_, (true), (by first | rfl | (simp; done) | (simp [*]; done)), H', ⟨by first | omega | exact Nat.le_refl _⟩, ⟨bG BK442⟩, ⟨bG BK443⟩, ⟨by exact lT HB (gC GE442 (gC GE443 gN))⟩⟩
  ·replace c9 := Bool.eq_false_iff.mpr c9
   subst c9
   have H1 : (impl_SegWrite.j0 k a1 a2 a3 true l0_0 l0_1) = some (r1, r2, r3) := by rw [if_neg (show ¬ (false = true) by decide)] at H; exact H
   clear H
   have H := H1
   clear H1
   have H' := Aside0.mk H
   clear H
   go_wp2_with (first | ((with_reducible refine gate_callee (f := 50) rfl ?_); refine gl (some 11) Try.func50 #[.int .i64 a1, .int .i64 0, .int .i64 10] ?_; (with_reducible refine (impl_in.calls a1 0 10 false _ A8.out).mono ?_); rintro e w' ⟨rfl, ⟨nd, rfl⟩⟩; refine ⟨_, rfl, ?_⟩))
   go_meet
   case rel => exact ⟨_, (true), (by first | rfl | (simp; done) | (simp [*]; done)), H', ⟨by first | omega | exact Nat.le_refl _⟩, ⟨bG BK442⟩, ⟨bG BK443⟩, ⟨by exact lT HB (gC GE442 (gC GE443 gN))⟩⟩
 case rest =>
  clear HC5
  try clear c1
  try clear c2
  try clear p2
  try clear c5
  try clear p6
  try clear c9
  try clear c11
  obtain ⟨kq, x24_4, rfl, HA, HJ4, BK442, BK443, HB⟩ := hcut
  cases kq with
  | zero => exact absurd HA.out (by simp [impl_SegWrite.j0])
  | succ kj4 =>
   have H := HA.out
   clear HA
   simp only [impl_SegWrite.j0] at H
   by_cases c12 : x24_4 = true
   ·subst c12
    have H1 : ((impl_cloneDisk.f l0_0 l0_1).bind fun bt446 => (some (bt446.1, bt446.2, false))) = some (r1, r2, r3) := by rw [if_pos rfl] at H; exact H
    clear H
    have H := H1
    clear H1
    replace H := Option.bind_eq_some_iff.mp H
    obtain ⟨⟨t446, t449⟩, A130, H⟩ := H
    replace H : (some (t446, t449, false)) = some (r1, r2, r3) := H
    have A13 := Aside0.mk A130
    clear A130
    simp only [Option.some.injEq, Prod.mk.injEq] at H
    obtain ⟨rfl, rfl, rfl⟩ := H
    have hnb14 := NB442_443.out
    have hnc14 := NB443_442.out
    have hcz15_0 : wc.cell? ⟨gb442, 0, none⟩ = some (.slice A0_0 l0_0.length c0_0) := bc BK442 0
    have hcz15_1 : wc.cell? ⟨gb442, 1, none⟩ = some (.slice A0_1 l0_1.length c0_1) := bc BK442 1
    have hfz15_0 := blk_frozen BK442.out 0
    have hfz15_1 := blk_frozen BK442.out 1
    go_wp2_with (first | ((with_reducible refine gate_callee (f := 48) rfl ?_); refine gl (some 26) Try.func48 #[.agg #[.slice A0_0 l0_0.length c0_0, .slice A0_1 l0_1.length c0_1]] ?_; (with_reducible refine (impl_cloneDisk.calls _ _ l0_0 _ _ l0_1 t446 t449 _ ?side1 ?side2 ?side3 ?side4 A13.out).mono ?_); (case side1 => exact cG (Kd.C_below HR0_0.out HB.out)); (case side2 => exact HC0_0.out); (case side3 => exact cG (Kd.C_below HR0_1.out HB.out)); (case side4 => exact HC0_1.out); rintro e w16 ⟨v447, v450, rfl, ho0, ho1, hb⟩; refine ⟨_, rfl, ?_⟩; replace HO448 := ak (Kd.R_lower ho0 (below_size (lT HB (gC GE442 (gC GE443 gN))))); replace HO451 := ak (Kd.R_lower ho1 (below_size (lT HB (gC GE442 (gC GE443 gN))))); replace BK442 := bB BK442 hb; replace BK443 := bB BK443 hb; replace HB := ak (below_step (lT HB (gC GE442 (gC GE443 gN))) hb); (try clear hb); (try clear hk); (try clear ho0); (try clear ho1); obtain ⟨Ao17, co17, eo17⟩ := Kd.R_slice HO448.out; subst eo17; obtain ⟨hcz18_0, hcz18_1, hfz18_0, hfz18_1⟩ := bC2 BK443; obtain ⟨Ao19, co19, eo19⟩ := Kd.R_slice HO451.out; subst eo19))
    refine bodyPost_ret (results_ct rfl _ _ gb443 27 #[.slice Ao17 t446.length co17, .slice Ao19 t449.length co19] (0, 0) _ rfl (bW BK443) Try.underlying27 rfl (by kernel_rfl)) rfl ?_
    exact ⟨_, _, ew, by exact Kd.R_mono (rT HO448 BK443 (by decide)) (fun _ hk => trivial), by exact Kd.R_mono (rT HO451 BK443 (by decide)) (fun _ hk => trivial), by exact lT HB (gC GE442 (gC GE443 gN))⟩
   ·replace c12 := Bool.eq_false_iff.mpr c12
    subst c12
    have H1 : ((impl_SegFirst.f a1).bind fun t452 => ((impl_WriteBytes.f kj4 l0_0 l0_1 t452 a2 a3).bind fun bt453 => (some (bt453.1, bt453.2.1, bt453.2.2)))) = some (r1, r2, r3) := by rw [if_neg (show ¬ (false = true) by decide)] at H; exact H
    clear H
    have H := H1
    clear H1
    replace H := Option.bind_eq_some_iff.mp H
    obtain ⟨t452, A200, H⟩ := H
    replace H : ((impl_WriteBytes.f kj4 l0_0 l0_1 t452 a2 a3).bind fun bt453 => (some (bt453.1, bt453.2.1, bt453.2.2))) = some (r1, r2, r3) := H
    have A20 := Aside0.mk A200
    clear A200
    replace H := Option.bind_eq_some_iff.mp H
    obtain ⟨⟨t453, t456, t459⟩, A210, H⟩ := H
    replace H : (some (t453, t456, t459)) = some (r1, r2, r3) := H
    have A21 := Aside0.mk A210
    clear A210
    simp only [Option.some.injEq, Prod.mk.injEq] at H
    obtain ⟨rfl, rfl, rfl⟩ := H
    try go_wp2
    replace BK442 := ak (blk_drew BK442.out)
    replace BK443 := ak (blk_drew BK443.out)
    replace HB := ak (below_drew1 HB.out)
    refine start_ (n := 10) (S := fun w' => w'.cell? ⟨gb442, 0, none⟩ = some (.slice A0_0 l0_0.length c0_0) ∧ w'.cell? ⟨gb442, 1, none⟩ = some (.slice A0_1 l0_1.length c0_1)) (ds := []) #[f_,f_,f_,f_,f_,f_,f_,f_,f_,f_] (by kernel_rfl) rfl rfl ⟨bc BK442 0, bc BK442 1⟩ (fun hHeld => ?_); refine with_tabW impl_SegWrite.tab3 impl_SegWrite.bits3 (fun HT_ HW_ => ?_)
    generalize wc.drew = w22 at BK442 BK443 HB hHeld ⊢
    refine pu 1 28 (fb 10 2) HT_ ?_
    refine pu 3 30 (fb 10 10) HT_ ?_
    refine pu 4 31 (fb 10 26) HT_ ?_
    refine tk 0 27 (fb 10 27) HT_ HW_ hHeld ?_
    refine on 2 (some 29) (fb 10 31) HT_ (fun K hK => ?_)
    refine goes_ Try.func28 (by kernel_rfl) rfl #[.int .i64 a1] (by rfl) rfl rfl (by (try simp only [List.map_toArray, List.map_cons, List.map_nil]); first | done | rfl | (simp only [List.length_drop, List.length_take]; rfl)) ?_
    with_reducible refine (impl_SegFirst.calls a1 t452 _ A20.out).mono ?_
    rintro e w' ⟨rfl, ⟨nd, rfl⟩⟩
    refine ⟨_, rfl, ?_⟩
    refine hK.out _ _ ⟨bc BK442 0, bc BK442 1⟩ (fun hHeld => ?_)
    clear hK K
    refine nm ?_
    refine on 5 (some 32) (fb 10 63) HT_ (fun K hK => ?_)
    refine goes_ Try.func60 (by kernel_rfl) rfl #[.agg #[.slice A0_0 l0_0.length c0_0, .slice A0_1 l0_1.length c0_1], .int .i64 t452, .int .i64 a2, .string a3] (by rfl) rfl rfl (by (try simp only [List.map_toArray, List.map_cons, List.map_nil]); first | done | rfl | (simp only [List.length_drop, List.length_take]; rfl)) ?_
    with_reducible refine (impl_WriteBytes.calls kj4 _ _ l0_0 _ _ l0_1 t452 a2 a3 t453 t456 t459 _ ?side1 ?side2 ?side3 ?side4 A21.out).mono ?_
    (case side1 => repeat (first | exact (Kd.C_below HR0_0.out (lT HB (gC GE442 (gC GE443 gN)))) | (with_reducible refine Kd.C_alloc ?_ _) | (with_reducible refine Kd.C_drewN ?_ _) | (with_reducible refine Kd.C_drew ?_)))
    (case side2 => exact HC0_0.out)
    (case side3 => repeat (first | exact (Kd.C_below HR0_1.out (lT HB (gC GE442 (gC GE443 gN)))) | (with_reducible refine Kd.C_alloc ?_ _) | (with_reducible refine Kd.C_drewN ?_ _) | (with_reducible refine Kd.C_drew ?_)))
    (case side4 => exact HC0_1.out)
    rintro e w23 ⟨v454, v457, rfl, ho0, ho1, hb⟩
    refine ⟨_, rfl, ?_⟩
    replace HO455 := ak (Kd.R_lower ho0 (below_size (lT HB (gC GE442 (gC GE443 gN)))))
    replace HO458 := ak (Kd.R_lower ho1 (below_size (lT HB (gC GE442 (gC GE443 gN)))))
    replace BK442 := bB BK442 hb
    replace BK443 := bB BK443 hb
    replace HB := ak (below_step (lT HB (gC GE442 (gC GE443 gN))) hb)
    (try clear hb)
    (try clear hb2)
    (try clear hk)
    (try clear hi)
    (try clear ho0)
    (try clear ho1)
    obtain ⟨Ao24, co24, eo24⟩ := Kd.R_slice HO455.out
    (first | subst eo24 | (injection eo24 with f1_ f2_ f3_; have f4_ := f1_.symm; have f5_ := f3_.symm; clear f1_ f2_ f3_; subst f4_; subst f5_))
    obtain ⟨Ao26, co26, eo26⟩ := Kd.R_slice HO458.out
    (first | subst eo26 | (injection eo26 with f1_ f2_ f3_; have f4_ := f1_.symm; have f5_ := f3_.symm; clear f1_ f2_ f3_; subst f4_; subst f5_))
    refine hK.out _ _ ⟨bc BK442 0, bc BK442 1⟩ (fun hHeld => ?_)
    clear hK K
    refine nm ?_
    refine pu 6 33 (fb 10 127) HT_ ?_
    refine pu 7 34 (fb 10 255) HT_ ?_
    refine on 8 none (fb 10 511) HT_ (fun K hK => ?_)
    have hs25 : w23.cell? ⟨gb443, 0, none⟩ = some (.slice none 0 0) := bc BK443 0
    have hfs25 := blk_frozen BK443.out 0
    have hns25_0 := NB442_443.out
    have hms25_0 := NB443_442.out
    have hs27 : w23.cell? ⟨gb443, 1, none⟩ = some (.slice none 0 0) := bc BK443 1
    have hfs27 := blk_frozen BK443.out 1
    have hns27_0 := NB442_443.out
    have hms27_0 := NB443_442.out
    refine skip_ (w1 := ?_) (by rfl) rfl ?_ ?_
    rotate_left
    ·go_simp
     rfl
    refine hK.out _ _ ⟨((cell_far (p := ⟨gb443, _, none⟩) NB442_443.out _).trans (((cell_far (p := ⟨gb443, _, none⟩) NB442_443.out _).trans (hHeld.1)))), ((cell_far (p := ⟨gb443, _, none⟩) NB442_443.out _).trans (((cell_far (p := ⟨gb443, _, none⟩) NB442_443.out _).trans (hHeld.2))))⟩ (fun hHeld => ?_)
    clear hK K
    refine pu 9 9 (fb 10 1023) HT_ ?_
    refine done_ (done_of HT_.out (by kernel_rfl)) ?_
    try go_wp2
    refine bodyPost_ret (results_ct rfl _ _ gb443 27 #[.slice Ao24 t453.length co24, .slice Ao26 t456.length co26] (0, 0) _ rfl (bW BK443) Try.underlying27 rfl (by kernel_rfl)) rfl ?_
    exact ⟨_, _, ew, by exact Kd.R_mono (rT HO455 BK443 (by decide)) (fun _ hk => trivial), by exact Kd.R_mono (rT HO458 BK443 (by decide)) (fun _ hk => trivial), by exact lT HB (gC GE442 (gC GE443 gN))⟩

/-! ### spec_SectorText: function 33 -/
mutual
def spec_SectorText.l0 : Nat → Int → Int → ByteArray → Int → List ByteArray → List (S63) → Option (ByteArray × Bool)
 | 0, _, _, _, _, _, _ => none
 | k + 1, x1, x2, x8, x9, x461000, x461001 => if x9 < x2 then (if x1 < 0 then (spec_SectorText.j1 k x1 x2 x8 x9 true x461000 x461001) else (spec_SectorText.j1 k x1 x2 x8 x9 (decide (x1 > (x461000.length : Int))) x461000 x461001)) else (some (x8, true))
def spec_SectorText.j1 : Nat → Int → Int → ByteArray → Int → Bool → List ByteArray → List (S63) → Option (ByteArray × Bool)
 | 0, _, _, _, _, _, _, _ => none
 | k + 1, x1, x2, x8, x9, x28, x461000, x461001 => if x28 = true then (some ((⟨#[]⟩ : ByteArray), false)) else ((spec_ReadSector.f k x461000 x461001 (wrap64 (x1 + x9))).bind fun bt462 => (if bt462.2 = true then (if x8.size + bt462.1.size ≤ 9223372036854775807 then (spec_SectorText.l0 k x1 x2 (x8 ++ bt462.1) (wrap64 (x9 + 1)) x461000 x461001) else (none)) else (some ((⟨#[]⟩ : ByteArray), false))))
end
def spec_SectorText.f (k : Nat) (l0_0 : List ByteArray) (l0_1 : List (S63)) (a1 : Int) (a2 : Int) : Option (ByteArray × Bool) := (spec_l01In.f a2 0 100).bind fun t461 => (if t461 = true then (spec_SectorText.l0 k a1 a2 (⟨#[]⟩ : ByteArray) 0 l0_0 l0_1) else (some ((⟨#[]⟩ : ByteArray), false)))
theorem spec_SectorText.mono_l : ∀ k, (∀ y0 y1 y2 y3 y4 y5, LeO (spec_SectorText.l0 k y0 y1 y2 y3 y4 y5) (spec_SectorText.l0 (k + 1) y0 y1 y2 y3 y4 y5)) ∧ (∀ y0 y1 y2 y3 y4 y5 y6, LeO (spec_SectorText.j1 k y0 y1 y2 y3 y4 y5 y6) (spec_SectorText.j1 (k + 1) y0 y1 y2 y3 y4 y5 y6))
 | 0 => ⟨fun _ _ _ _ _ _ r h => by simp [spec_SectorText.l0] at h, fun _ _ _ _ _ _ _ r h => by simp [spec_SectorText.j1] at h⟩
 | k + 1 => by
  obtain ⟨ih0, ih1⟩ := spec_SectorText.mono_l k
  refine ⟨?_, ?_⟩
  ·intro y0 y1 y2 y3 y4 y5
   unfold spec_SectorText.l0
   repeat' first
   | (with_reducible exact ih0 _ _ _ _ _ _)
   | (with_reducible exact ih1 _ _ _ _ _ _ _)
   | (with_reducible exact spec_ReadSector.mono _ _ _ _)
   | (with_reducible exact LeO.refl _)
   | (with_reducible exact LeO.none _)
   | (with_reducible refine LeO.ite ?_ ?_)
   | (with_reducible refine LeO.bind ?_ (fun _ => ?_))
   | exact ih0 _ _ _ _ _ _
   | exact ih1 _ _ _ _ _ _ _
   | exact spec_ReadSector.mono _ _ _ _
   | exact LeO.none _
   | refine LeO.ite ?_ ?_
   | refine LeO.bind ?_ (fun _ => ?_)
  ·intro y0 y1 y2 y3 y4 y5 y6
   unfold spec_SectorText.j1
   repeat' first
   | (with_reducible exact ih0 _ _ _ _ _ _)
   | (with_reducible exact ih1 _ _ _ _ _ _ _)
   | (with_reducible exact spec_ReadSector.mono _ _ _ _)
   | (with_reducible exact LeO.refl _)
   | (with_reducible exact LeO.none _)
   | (with_reducible refine LeO.ite ?_ ?_)
   | (with_reducible refine LeO.bind ?_ (fun _ => ?_))
   | exact ih0 _ _ _ _ _ _
   | exact ih1 _ _ _ _ _ _ _
   | exact spec_ReadSector.mono _ _ _ _
   | exact LeO.none _
   | refine LeO.ite ?_ ?_
   | refine LeO.bind ?_ (fun _ => ?_)
theorem spec_SectorText.mono : ∀ a0 a1 a2 a3 k, LeO (spec_SectorText.f k a0 a1 a2 a3) (spec_SectorText.f (k + 1) a0 a1 a2 a3) := by
 intro a0 a1 a2 a3 k
 obtain ⟨ih0, ih1⟩ := spec_SectorText.mono_l k
 unfold spec_SectorText.f
 repeat' first
   | (with_reducible exact ih0 _ _ _ _ _ _)
   | (with_reducible exact ih1 _ _ _ _ _ _ _)
   | (with_reducible exact spec_ReadSector.mono _ _ _ _)
   | (with_reducible exact LeO.refl _)
   | (with_reducible exact LeO.none _)
   | (with_reducible refine LeO.ite ?_ ?_)
   | (with_reducible refine LeO.bind ?_ (fun _ => ?_))
   | exact ih0 _ _ _ _ _ _
   | exact ih1 _ _ _ _ _ _ _
   | exact spec_ReadSector.mono _ _ _ _
   | exact LeO.none _
   | refine LeO.ite ?_ ?_
   | refine LeO.bind ?_ (fun _ => ?_)
set_option maxHeartbeats 8000000 in
set_option maxRecDepth 100000 in
theorem spec_SectorText.calls (k : Nat) (A0_0 : Option Addr) (c0_0 : Nat) (l0_0 : List ByteArray) (A0_1 : Option Addr) (c0_1 : Nat) (l0_1 : List (S63)) (a1 : Int) (a2 : Int) (r1 : ByteArray) (r2 : Bool) (w : World) (hr0_0 : Kd.C Kd.string w A0_0 l0_0.length l0_0) (hc0_0 : l0_0.length ≤ c0_0) (hr0_1 : Kd.C k63 w A0_1 l0_1.length l0_1) (hc0_1 : l0_1.length ≤ c0_1) (h : spec_SectorText.f k l0_0 l0_1 a1 a2 = some (r1, r2)) :
  Calls Try.prog 33 #[.agg #[.slice A0_0 l0_0.length c0_0, .slice A0_1 l0_1.length c0_1], .int .i64 a1, .int .i64 a2] w fun e w' => e = .returned (.tuple #[.string r1, .bool r2]) ∧ Below w.heap.size w w' := by
 have hu27 := Try.underlying27
 have HR0_0 := Aside0.mk hr0_0
 have HC0_0 := Aside0.mk hc0_0
 clear hr0_0 hc0_0
 have HR0_1 := Aside0.mk hr0_1
 have HC0_1 := Aside0.mk hc0_1
 clear hr0_1 hc0_1
 have HB := ak (Below.refl w.heap.size w)
 have H : ((spec_l01In.f a2 0 100).bind fun t461 => (if t461 = true then (spec_SectorText.l0 k a1 a2 (⟨#[]⟩ : ByteArray) 0 l0_0 l0_1) else (some ((⟨#[]⟩ : ByteArray), false)))) = some (r1, r2) := h
 clear h
 replace H := Option.bind_eq_some_iff.mp H
 obtain ⟨t461, A40, H⟩ := H
 replace H : (if t461 = true then (spec_SectorText.l0 k a1 a2 (⟨#[]⟩ : ByteArray) 0 l0_0 l0_1) else (some ((⟨#[]⟩ : ByteArray), false))) = some (r1, r2) := H
 have A4 := Aside0.mk A40
 clear A40
 by_cases c5 : t461 = true
 ·subst c5
  have H1 : (spec_SectorText.l0 k a1 a2 (⟨#[]⟩ : ByteArray) 0 l0_0 l0_1) = some (r1, r2) := by rw [if_pos rfl] at H; exact H
  clear H
  have H := H1
  clear H1
  have H' := Aside0.mk H
  clear H
  go_enter Try.func33, Try.ntmps33
  go_wp2_with (first | ((with_reducible refine gate_dst (N := 3) rfl ?_); (try (refine gate_guard (by rfl) ?_; dsimp only)); refine bx 3 #[.slice A0_0 l0_0.length c0_0, .slice A0_1 l0_1.length c0_1] 27 ?_; intro gb460 hg w6 hbox hb; replace BK460 := ak (hbox); replace GW460 := ak (bz hg (lG HB)); replace GE460 := ak (bz hg (lG HB)); replace HB := lB HB hb; clear hb hbox hg) | ((with_reducible refine gate_callee (f := 49) rfl ?_); refine gl (some 13) Try.func49 #[.int .i64 a2, .int .i64 0, .int .i64 100] ?_; (with_reducible refine (spec_l01In.calls a2 0 100 true _ A4.out).mono ?_); rintro e w' ⟨rfl, ⟨nd, rfl⟩⟩; refine ⟨_, rfl, ?_⟩))
  go_loopg [8, 9] k (fun kq v8 v9 w' => ∃ (x8_1 : ByteArray) (x9_1 : Int), v8 = .string x8_1 ∧ v9 = .int .i64 x9_1 ∧ Aside0 (spec_SectorText.l0 kq a1 a2 x8_1 x9_1 l0_0 l0_1 = some (r1, r2)) ∧ Aside0 (kq ≤ k) ∧ Aside0 (w'.heap[gb460]? = some (.cells #[(.slice A0_0 l0_0.length c0_0), (.slice A0_1 l0_1.length c0_1)] 27 (0, 0))) ∧ Aside0 (Below w.heap.size w w'))
  case atStart => exact ⟨((⟨#[]⟩ : ByteArray)), (0), (by first | rfl | (simp; done) | (simp [*]; done)), (by first | rfl | (simp; done) | (simp [*]; done)), H', ⟨Nat.le_refl _⟩, ⟨bG BK460⟩, ⟨by exact lT HB (gC GE460 gN)⟩⟩
  case round =>
   clear H'
   try clear p2
   try clear c3
   try clear c4
   try clear c5
   obtain ⟨x8_1, x9_1, rfl, rfl, HA, HK1, BK460, HB⟩ := hrel
   cases gk with
   | zero => exact absurd HA.out (by simp [spec_SectorText.l0])
   | succ k1 =>
    have H := HA.out
    clear HA
    simp only [spec_SectorText.l0] at H
    by_cases c7 : x9_1 < a2
    ·rw [if_pos c7] at H
     have c7b0 : decide (x9_1 < a2) = true := decide_eq_true c7
     clear c7
     have HC8 := Aside0.mk H
     clear H
     go_upto_region 7 with (fail)
     go_cut [28] (fun v28 wc => ∃ (kq : Nat) (x28_7 : Bool), v28 = .bool x28_7 ∧ Aside0 (spec_SectorText.j1 kq a1 a2 x8_1 x9_1 x28_7 l0_0 l0_1 = some (r1, r2)) ∧ Aside0 (kq ≤ k1) ∧ Aside0 (wc.heap[gb460]? = some (.cells #[(.slice A0_0 l0_0.length c0_0), (.slice A0_1 l0_1.length c0_1)] 27 (0, 0))) ∧ Aside0 (Below w.heap.size w wc))
     case first =>
      have H := HC8.out
      clear HC8
      by_cases c9 : a1 < 0
      ·rw [if_pos c9] at H
       have c9b0 : decide (a1 < 0) = true := decide_eq_true c9
       clear c9
       (first | rw [c9b0] | (simp only [i64_w, i32_w]; rw [c9b0]) | skip)
       have H' := Aside0.mk H
       clear H
       go_wp2
       go_meet
       case rel => exact ⟨_, (true), (by first | rfl | (simp; done) | (simp [*]; done)), H', ⟨by have := HK1.out; first | omega | exact Nat.le_refl _⟩, ⟨bG BK460⟩, ⟨by exact lT HB (gC GE460 gN)⟩⟩
      ·rw [if_neg c9] at H
       have c9b0 : decide (a1 < 0) = false := decide_eq_false c9
       clear c9
       (first | rw [c9b0] | (simp only [i64_w, i32_w]; rw [c9b0]) | skip)
       have H' := Aside0.mk H
       clear H
       have hcz10_0 : wr.cell? ⟨gb460, 0, none⟩ = some (.slice A0_0 l0_0.length c0_0) := bc BK460 0
       have hcz10_1 : wr.cell? ⟨gb460, 1, none⟩ = some (.slice A0_1 l0_1.length c0_1) := bc BK460 1
       have hfz10_0 := blk_frozen BK460.out 0
       have hfz10_1 := blk_frozen BK460.out 1
       go_wp2
       go_meet
       case rel => exact ⟨_, (decide (a1 > (l0_0.length : Int))), (by first | rfl | (simp; done) | (simp [*]; done)), H', ⟨by have := HK1.out; first | omega | exact Nat.le_refl _⟩, ⟨bG BK460⟩, ⟨by exact lT HB (gC GE460 gN)⟩⟩
     case rest =>
      clear HC8
      try clear p2
      try clear c3
      try clear c4
      try clear c5
      try clear c7
      try clear c7b0
      try clear c9
      try clear c9b0
      try clear hcz10_0
      try clear hcz10_1
      try clear hfz10_0
      try clear hfz10_1
      try clear p2
      obtain ⟨kq, x28_7, rfl, HA, HJ7, BK460, HB⟩ := hcut
      cases kq with
      | zero => exact absurd HA.out (by simp [spec_SectorText.j1])
      | succ kj7 =>
       have H := HA.out
       clear HA
       simp only [spec_SectorText.j1] at H
       by_cases c11 : x28_7 = true
       ·subst c11
        have H1 : (some ((⟨#[]⟩ : ByteArray), false)) = some (r1, r2) := by rw [if_pos rfl] at H; exact H
        clear H
        have H := H1
        clear H1
        simp only [Option.some.injEq, Prod.mk.injEq] at H
        obtain ⟨rfl, rfl⟩ := H
        go_wp2
        go_ret2
        exact ⟨ew, by exact lT HB (gC GE460 gN)⟩
       ·replace c11 := Bool.eq_false_iff.mpr c11
        subst c11
        have H1 : ((spec_ReadSector.f kj7 l0_0 l0_1 (wrap64 (a1 + x9_1))).bind fun bt462 => (if bt462.2 = true then (if x8_1.size + bt462.1.size ≤ 9223372036854775807 then (spec_SectorText.l0 kj7 a1 a2 (x8_1 ++ bt462.1) (wrap64 (x9_1 + 1)) l0_0 l0_1) else (none)) else (some ((⟨#[]⟩ : ByteArray), false)))) = some (r1, r2) := by rw [if_neg (show ¬ (false = true) by decide)] at H; exact H
        clear H
        have H := H1
        clear H1
        replace H := Option.bind_eq_some_iff.mp H
        obtain ⟨⟨t462, t463⟩, A120, H⟩ := H
        replace H : (if t463 = true then (if x8_1.size + t462.size ≤ 9223372036854775807 then (spec_SectorText.l0 kj7 a1 a2 (x8_1 ++ t462) (wrap64 (x9_1 + 1)) l0_0 l0_1) else (none)) else (some ((⟨#[]⟩ : ByteArray), false))) = some (r1, r2) := H
        have A12 := Aside0.mk A120
        clear A120
        by_cases c13 : t463 = true
        ·subst c13
         have H1 : (if x8_1.size + t462.size ≤ 9223372036854775807 then (spec_SectorText.l0 kj7 a1 a2 (x8_1 ++ t462) (wrap64 (x9_1 + 1)) l0_0 l0_1) else (none)) = some (r1, r2) := by rw [if_pos rfl] at H; exact H
         clear H
         have H := H1
         clear H1
         by_cases c14 : x8_1.size + t462.size ≤ 9223372036854775807
         ·rw [if_pos c14] at H
          have c14b0 := eq_true c14
          have c14b1 : decide (x8_1.size + t462.size ≤ 9223372036854775807) = true := decide_eq_true c14
          try have c14b2 : (9223372036854775807 < x8_1.size + t462.size) = False := eq_false (Nat.not_lt.2 c14)
          have H' := Aside0.mk H
          clear H
          have hcz15_0 : wc.cell? ⟨gb460, 0, none⟩ = some (.slice A0_0 l0_0.length c0_0) := bc BK460 0
          have hcz15_1 : wc.cell? ⟨gb460, 1, none⟩ = some (.slice A0_1 l0_1.length c0_1) := bc BK460 1
          have hfz15_0 := blk_frozen BK460.out 0
          have hfz15_1 := blk_frozen BK460.out 1
          go_wp2_with (first | ((with_reducible refine gate_callee (f := 14) rfl ?_); refine gl (some 34) Try.func14 #[.agg #[.slice A0_0 l0_0.length c0_0, .slice A0_1 l0_1.length c0_1], .int .i64 (wrap64 (a1 + x9_1))] ?_; (with_reducible refine (spec_ReadSector.calls kj7 _ _ l0_0 _ _ l0_1 (wrap64 (a1 + x9_1)) t462 true _ ?side1 ?side2 ?side3 ?side4 A12.out).mono ?_); (case side1 => exact cG (Kd.C_below HR0_0.out HB.out)); (case side2 => exact HC0_0.out); (case side3 => exact cG (Kd.C_below HR0_1.out HB.out)); (case side4 => exact HC0_1.out); rintro e w16 ⟨rfl, hb⟩; refine ⟨_, rfl, ?_⟩; replace BK460 := bB BK460 hb; replace HB := ak (below_step (lT HB (gC GE460 gN)) hb); (try clear hb); (try clear hk)))
          go_roundg kj7
          case measure => have := HK1.out; have := HJ7.out; omega
          case rel => exact ⟨(x8_1 ++ t462), (wrap64 (x9_1 + 1)), (by first | rfl | (simp; done) | (simp [*]; done)), (by first | rfl | (simp; done) | (simp [*]; done)), H', ⟨by have := HK1.out; have := HJ7.out; omega⟩, ⟨bG BK460⟩, ⟨by exact lT HB (gC GE460 gN)⟩⟩
         ·rw [if_neg c14] at H
          exact absurd H (by simp)
        ·replace c13 := Bool.eq_false_iff.mpr c13
         subst c13
         have H1 : (some ((⟨#[]⟩ : ByteArray), false)) = some (r1, r2) := by rw [if_neg (show ¬ (false = true) by decide)] at H; exact H
         clear H
         have H := H1
         clear H1
         simp only [Option.some.injEq, Prod.mk.injEq] at H
         obtain ⟨rfl, rfl⟩ := H
         have hcz17_0 : wc.cell? ⟨gb460, 0, none⟩ = some (.slice A0_0 l0_0.length c0_0) := bc BK460 0
         have hcz17_1 : wc.cell? ⟨gb460, 1, none⟩ = some (.slice A0_1 l0_1.length c0_1) := bc BK460 1
         have hfz17_0 := blk_frozen BK460.out 0
         have hfz17_1 := blk_frozen BK460.out 1
         go_wp2_with (first | ((with_reducible refine gate_callee (f := 14) rfl ?_); refine gl (some 34) Try.func14 #[.agg #[.slice A0_0 l0_0.length c0_0, .slice A0_1 l0_1.length c0_1], .int .i64 (wrap64 (a1 + x9_1))] ?_; (with_reducible refine (spec_ReadSector.calls kj7 _ _ l0_0 _ _ l0_1 (wrap64 (a1 + x9_1)) t462 false _ ?side1 ?side2 ?side3 ?side4 A12.out).mono ?_); (case side1 => exact cG (Kd.C_below HR0_0.out HB.out)); (case side2 => exact HC0_0.out); (case side3 => exact cG (Kd.C_below HR0_1.out HB.out)); (case side4 => exact HC0_1.out); rintro e w18 ⟨rfl, hb⟩; refine ⟨_, rfl, ?_⟩; replace BK460 := bB BK460 hb; replace HB := ak (below_step (lT HB (gC GE460 gN)) hb); (try clear hb); (try clear hk)))
         go_ret2
         exact ⟨ew, by exact lT HB (gC GE460 gN)⟩
    ·rw [if_neg c7] at H
     have c7b0 : decide (x9_1 < a2) = false := decide_eq_false c7
     clear c7
     simp only [Option.some.injEq, Prod.mk.injEq] at H
     obtain ⟨rfl, rfl⟩ := H
     go_wp2
     go_ret2
     exact ⟨ew, by exact lT HB (gC GE460 gN)⟩
 ·replace c5 := Bool.eq_false_iff.mpr c5
  subst c5
  have H1 : (some ((⟨#[]⟩ : ByteArray), false)) = some (r1, r2) := by rw [if_neg (show ¬ (false = true) by decide)] at H; exact H
  clear H
  have H := H1
  clear H1
  simp only [Option.some.injEq, Prod.mk.injEq] at H
  obtain ⟨rfl, rfl⟩ := H
  go_enter Try.func33, Try.ntmps33
  go_wp2_with (first | ((with_reducible refine gate_dst (N := 3) rfl ?_); (try (refine gate_guard (by rfl) ?_; dsimp only)); refine bx 3 #[.slice A0_0 l0_0.length c0_0, .slice A0_1 l0_1.length c0_1] 27 ?_; intro gb460 hg w19 hbox hb; replace BK460 := ak (hbox); replace GW460 := ak (bz hg (lG HB)); replace GE460 := ak (bz hg (lG HB)); replace HB := lB HB hb; clear hb hbox hg) | ((with_reducible refine gate_callee (f := 49) rfl ?_); refine gl (some 13) Try.func49 #[.int .i64 a2, .int .i64 0, .int .i64 100] ?_; (with_reducible refine (spec_l01In.calls a2 0 100 false _ A4.out).mono ?_); rintro e w' ⟨rfl, ⟨nd, rfl⟩⟩; refine ⟨_, rfl, ?_⟩))
  go_ret2
  exact ⟨ew, by exact lT HB (gC GE460 gN)⟩

/-! ### spec_SegText: function 25 -/
def spec_SegText.f (k : Nat) (l0_0 : List ByteArray) (l0_1 : List (S63)) (a1 : Int) : Option (ByteArray) := (spec_l01In.f a1 0 10).bind fun t465 => (if t465 = true then ((spec_SegFirst.f a1).bind fun t466 => ((spec_SectorText.f k l0_0 l0_1 t466 8).bind fun bt467 => (some bt467.1))) else (some (⟨#[]⟩ : ByteArray)))
theorem spec_SegText.mono : ∀ a0 a1 a2 k, LeO (spec_SegText.f k a0 a1 a2) (spec_SegText.f (k + 1) a0 a1 a2) := by
 intro a0 a1 a2 k
 unfold spec_SegText.f
 repeat' first
   | (with_reducible exact spec_SectorText.mono _ _ _ _ _)
   | (with_reducible exact LeO.refl _)
   | (with_reducible exact LeO.none _)
   | (with_reducible refine LeO.ite ?_ ?_)
   | (with_reducible refine LeO.bind ?_ (fun _ => ?_))
   | exact spec_SectorText.mono _ _ _ _ _
   | exact LeO.none _
   | refine LeO.ite ?_ ?_
   | refine LeO.bind ?_ (fun _ => ?_)
def spec_SegText.T3 : Bool × List (List Nat × List Nat) := (true, [([], []), ([], []), ([1], [1]), ([0, 2, 2], [0, 2]), ([3], [3]), ([4], [4]), ([4], [4]), ([5, 3, 0, 1, 2, 3, 4, 5], [5]), ([6, 7, 0, 1, 2, 3, 4, 5, 6, 7], [6])])
def spec_SegText.B3 : List Nat := [0, 0, 2, 7, 15, 31, 31, 63, 255]
theorem spec_SegText.tab3 : rtab .any (opsOf Try.f25 3) = spec_SegText.T3 := by kernel_rfl
theorem spec_SegText.bits3 : waitsOk spec_SegText.T3.2 spec_SegText.B3 = true := by kernel_rfl
set_option maxHeartbeats 8000000 in
set_option maxRecDepth 100000 in
theorem spec_SegText.calls (k : Nat) (A0_0 : Option Addr) (c0_0 : Nat) (l0_0 : List ByteArray) (A0_1 : Option Addr) (c0_1 : Nat) (l0_1 : List (S63)) (a1 : Int) (r : ByteArray) (w : World) (hr0_0 : Kd.C Kd.string w A0_0 l0_0.length l0_0) (hc0_0 : l0_0.length ≤ c0_0) (hr0_1 : Kd.C k63 w A0_1 l0_1.length l0_1) (hc0_1 : l0_1.length ≤ c0_1) (h : spec_SegText.f k l0_0 l0_1 a1 = some r) :
  Calls Try.prog 25 #[.agg #[.slice A0_0 l0_0.length c0_0, .slice A0_1 l0_1.length c0_1], .int .i64 a1] w fun e w' => e = .returned (.string r) ∧ Below w.heap.size w w' := by
 have hu27 := Try.underlying27
 have HR0_0 := Aside0.mk hr0_0
 have HC0_0 := Aside0.mk hc0_0
 clear hr0_0 hc0_0
 have HR0_1 := Aside0.mk hr0_1
 have HC0_1 := Aside0.mk hc0_1
 clear hr0_1 hc0_1
 have HB := ak (Below.refl w.heap.size w)
 have H : ((spec_l01In.f a1 0 10).bind fun t465 => (if t465 = true then ((spec_SegFirst.f a1).bind fun t466 => ((spec_SectorText.f k l0_0 l0_1 t466 8).bind fun bt467 => (some bt467.1))) else (some (⟨#[]⟩ : ByteArray)))) = some r := h
 clear h
 replace H := Option.bind_eq_some_iff.mp H
 obtain ⟨t465, A30, H⟩ := H
 replace H : (if t465 = true then ((spec_SegFirst.f a1).bind fun t466 => ((spec_SectorText.f k l0_0 l0_1 t466 8).bind fun bt467 => (some bt467.1))) else (some (⟨#[]⟩ : ByteArray))) = some r := H
 have A3 := Aside0.mk A30
 clear A30
 by_cases c4 : t465 = true
 ·subst c4
  have H1 : ((spec_SegFirst.f a1).bind fun t466 => ((spec_SectorText.f k l0_0 l0_1 t466 8).bind fun bt467 => (some bt467.1))) = some r := by rw [if_pos rfl] at H; exact H
  clear H
  have H := H1
  clear H1
  replace H := Option.bind_eq_some_iff.mp H
  obtain ⟨t466, A50, H⟩ := H
  replace H : ((spec_SectorText.f k l0_0 l0_1 t466 8).bind fun bt467 => (some bt467.1)) = some r := H
  have A5 := Aside0.mk A50
  clear A50
  replace H := Option.bind_eq_some_iff.mp H
  obtain ⟨⟨t467, t468⟩, A60, H⟩ := H
  replace H : (some t467) = some r := H
  have A6 := Aside0.mk A60
  clear A60
  obtain rfl := Option.some.inj H
  go_enter Try.func25, Try.ntmps25
  try go_wp2_with (first | ((with_reducible refine gate_dst (N := 2) rfl ?_); refine bx 2 #[.slice A0_0 l0_0.length c0_0, .slice A0_1 l0_1.length c0_1] 27 ?_; intro gb464 hg w7 hbox hb; replace BK464 := ak (hbox); replace GW464 := ak (bz hg (lG HB)); replace GE464 := ak (bz hg (lG HB)); replace HB := lB HB hb; clear hb hbox hg) | ((with_reducible refine gate_callee (f := 49) rfl ?_); refine gl (some 8) Try.func49 #[.int .i64 a1, .int .i64 0, .int .i64 10] ?_; (with_reducible refine (spec_l01In.calls a1 0 10 true _ A3.out).mono ?_); rintro e w' ⟨rfl, ⟨nd, rfl⟩⟩; refine ⟨_, rfl, ?_⟩))
  (try (rw [drewN_self w7]; generalize hq_ : World.drewN w7 _ = w7; have n0_ : Aside0 (w7.heap[gb464]? = some (.cells #[.slice A0_0 l0_0.length c0_0, .slice A0_1 l0_1.length c0_1] 27 (0, 0))) := ⟨by rw [← hq_]; exact (bG BK464)⟩; have n1_ : Aside0 (Below w.heap.size w w7) := ⟨by rw [← hq_]; exact (lT HB (gC GE464 gN))⟩; clear BK464 HB hq_; have BK464 := n0_; have HB := n1_; clear n0_ n1_))
  (try (have hy464_0 : w7.cell? ⟨gb464, 0, none⟩ = some (.slice A0_0 l0_0.length c0_0) := bc BK464 0; have hv464_0 := blk_frozen BK464.out 0; have hy464_1 : w7.cell? ⟨gb464, 1, none⟩ = some (.slice A0_1 l0_1.length c0_1) := bc BK464 1; have hv464_1 := blk_frozen BK464.out 1))
  replace BK464 := ak (blk_drew BK464.out)
  replace HB := ak (below_drew1 HB.out)
  refine start_ (n := 9) (S := fun w' => w'.cell? ⟨gb464, 0, none⟩ = some (.slice A0_0 l0_0.length c0_0) ∧ w'.cell? ⟨gb464, 1, none⟩ = some (.slice A0_1 l0_1.length c0_1)) (ds := []) #[f_,f_,f_,f_,f_,f_,f_,f_,f_] (by kernel_rfl) rfl rfl ⟨bc BK464 0, bc BK464 1⟩ (fun hHeld => ?_); refine with_tabW spec_SegText.tab3 spec_SegText.bits3 (fun HT_ HW_ => ?_)
  generalize w7.drew = w8 at BK464 HB hHeld ⊢
  refine pu 1 12 (fb 9 2) HT_ ?_
  refine tk 0 11 (fb 9 3) HT_ HW_ hHeld ?_
  refine on 2 (some 13) (fb 9 7) HT_ (fun K hK => ?_)
  refine goes_ Try.func61 (by kernel_rfl) rfl #[.int .i64 a1] (by rfl) rfl rfl (by (try simp only [List.map_toArray, List.map_cons, List.map_nil]); first | done | rfl | (simp only [List.length_drop, List.length_take]; rfl)) ?_
  with_reducible refine (spec_SegFirst.calls a1 t466 _ A5.out).mono ?_
  rintro e w' ⟨rfl, ⟨nd, rfl⟩⟩
  refine ⟨_, rfl, ?_⟩
  refine hK.out _ _ ⟨bc BK464 0, bc BK464 1⟩ (fun hHeld => ?_)
  clear hK K
  refine nm ?_
  refine on 3 (some 14) (fb 9 15) HT_ (fun K hK => ?_)
  refine goes_ Try.func33 (by kernel_rfl) rfl #[.agg #[.slice A0_0 l0_0.length c0_0, .slice A0_1 l0_1.length c0_1], .int .i64 t466, .int .i64 8] (by rfl) rfl rfl (by (try simp only [List.map_toArray, List.map_cons, List.map_nil]); first | done | rfl | (simp only [List.length_drop, List.length_take]; rfl)) ?_
  with_reducible refine (spec_SectorText.calls k _ _ l0_0 _ _ l0_1 t466 8 t467 t468 _ ?side1 ?side2 ?side3 ?side4 A6.out).mono ?_
  (case side1 => repeat (first | exact (Kd.C_below HR0_0.out (lT HB (gC GE464 gN))) | (with_reducible refine Kd.C_alloc ?_ _) | (with_reducible refine Kd.C_drewN ?_ _) | (with_reducible refine Kd.C_drew ?_)))
  (case side2 => exact HC0_0.out)
  (case side3 => repeat (first | exact (Kd.C_below HR0_1.out (lT HB (gC GE464 gN))) | (with_reducible refine Kd.C_alloc ?_ _) | (with_reducible refine Kd.C_drewN ?_ _) | (with_reducible refine Kd.C_drew ?_)))
  (case side4 => exact HC0_1.out)
  rintro e w9 ⟨rfl, hb⟩
  refine ⟨_, rfl, ?_⟩
  replace BK464 := bB BK464 hb
  replace HB := ak (below_step (lT HB (gC GE464 gN)) hb)
  (try clear hb)
  (try clear hb2)
  (try clear hk)
  (try clear hi)
  refine hK.out _ _ ⟨bc BK464 0, bc BK464 1⟩ (fun hHeld => ?_)
  clear hK K
  refine nm ?_
  refine pu 4 10 (fb 9 31) HT_ ?_
  refine pu 5 15 (fb 9 63) HT_ ?_
  refine pu 6 16 (fb 9 127) HT_ ?_
  refine pu 7 5 (fb 9 255) HT_ ?_
  refine pu 8 6 (fb 9 511) HT_ ?_
  refine done_ (done_of HT_.out (by kernel_rfl)) ?_
  try go_wp2
  go_ret
  exact ⟨ew, by exact lT HB (gC GE464 gN)⟩
 ·replace c4 := Bool.eq_false_iff.mpr c4
  subst c4
  have H1 : (some (⟨#[]⟩ : ByteArray)) = some r := by rw [if_neg (show ¬ (false = true) by decide)] at H; exact H
  clear H
  have H := H1
  clear H1
  obtain rfl := Option.some.inj H
  go_enter Try.func25, Try.ntmps25
  go_wp2_with (first | ((with_reducible refine gate_dst (N := 2) rfl ?_); refine bx 2 #[.slice A0_0 l0_0.length c0_0, .slice A0_1 l0_1.length c0_1] 27 ?_; intro gb464 hg w10 hbox hb; replace BK464 := ak (hbox); replace GW464 := ak (bz hg (lG HB)); replace GE464 := ak (bz hg (lG HB)); replace HB := lB HB hb; clear hb hbox hg) | ((with_reducible refine gate_callee (f := 49) rfl ?_); refine gl (some 8) Try.func49 #[.int .i64 a1, .int .i64 0, .int .i64 10] ?_; (with_reducible refine (spec_l01In.calls a1 0 10 false _ A3.out).mono ?_); rintro e w' ⟨rfl, ⟨nd, rfl⟩⟩; refine ⟨_, rfl, ?_⟩))
  go_ret
  exact ⟨ew, by exact lT HB (gC GE464 gN)⟩

/-! ### impl_SectorText: function 32 -/
def impl_SectorText.l0 : Nat → Int → ByteArray → Int → Int → List ByteArray → List (S63) → Option (ByteArray × Bool)
 | 0, _, _, _, _, _, _ => none
 | k + 1, x1, x8, x15, x16, x470000, x470001 => if x16 < x15 then ((impl_ReadSector.f k x470000 x470001 (wrap64 (x1 + x16))).bind fun bt471 => (if bt471.2 = true then (if x8.size + bt471.1.size ≤ 9223372036854775807 then (impl_SectorText.l0 k x1 (x8 ++ bt471.1) x15 (wrap64 (x16 + 1)) x470000 x470001) else (none)) else (some ((⟨#[]⟩ : ByteArray), false)))) else (some (x8, true))
def impl_SectorText.f (k : Nat) (l0_0 : List ByteArray) (l0_1 : List (S63)) (a1 : Int) (a2 : Int) : Option (ByteArray × Bool) := (impl_in.f a2 0 100).bind fun t470 => (if t470 = true then (impl_SectorText.l0 k a1 (⟨#[]⟩ : ByteArray) a2 0 l0_0 l0_1) else (some ((⟨#[]⟩ : ByteArray), false)))
theorem impl_SectorText.mono_l : ∀ k, (∀ y0 y1 y2 y3 y4 y5, LeO (impl_SectorText.l0 k y0 y1 y2 y3 y4 y5) (impl_SectorText.l0 (k + 1) y0 y1 y2 y3 y4 y5))
 | 0 => fun _ _ _ _ _ _ r h => by simp [impl_SectorText.l0] at h
 | k + 1 => by
  have ih0 := impl_SectorText.mono_l k
  ·intro y0 y1 y2 y3 y4 y5
   unfold impl_SectorText.l0
   repeat' first
   | (with_reducible exact ih0 _ _ _ _ _ _)
   | (with_reducible exact impl_ReadSector.mono _ _ _ _)
   | (with_reducible exact LeO.refl _)
   | (with_reducible exact LeO.none _)
   | (with_reducible refine LeO.ite ?_ ?_)
   | (with_reducible refine LeO.bind ?_ (fun _ => ?_))
   | exact ih0 _ _ _ _ _ _
   | exact impl_ReadSector.mono _ _ _ _
   | exact LeO.none _
   | refine LeO.ite ?_ ?_
   | refine LeO.bind ?_ (fun _ => ?_)
theorem impl_SectorText.mono : ∀ a0 a1 a2 a3 k, LeO (impl_SectorText.f k a0 a1 a2 a3) (impl_SectorText.f (k + 1) a0 a1 a2 a3) := by
 intro a0 a1 a2 a3 k
 have ih0 := impl_SectorText.mono_l k
 unfold impl_SectorText.f
 repeat' first
   | (with_reducible exact ih0 _ _ _ _ _ _)
   | (with_reducible exact impl_ReadSector.mono _ _ _ _)
   | (with_reducible exact LeO.refl _)
   | (with_reducible exact LeO.none _)
   | (with_reducible refine LeO.ite ?_ ?_)
   | (with_reducible refine LeO.bind ?_ (fun _ => ?_))
   | exact ih0 _ _ _ _ _ _
   | exact impl_ReadSector.mono _ _ _ _
   | exact LeO.none _
   | refine LeO.ite ?_ ?_
   | refine LeO.bind ?_ (fun _ => ?_)
set_option maxHeartbeats 8000000 in
set_option maxRecDepth 100000 in
theorem impl_SectorText.calls (k : Nat) (A0_0 : Option Addr) (c0_0 : Nat) (l0_0 : List ByteArray) (A0_1 : Option Addr) (c0_1 : Nat) (l0_1 : List (S63)) (a1 : Int) (a2 : Int) (r1 : ByteArray) (r2 : Bool) (w : World) (hr0_0 : Kd.C Kd.string w A0_0 l0_0.length l0_0) (hc0_0 : l0_0.length ≤ c0_0) (hr0_1 : Kd.C k63 w A0_1 l0_1.length l0_1) (hc0_1 : l0_1.length ≤ c0_1) (h : impl_SectorText.f k l0_0 l0_1 a1 a2 = some (r1, r2)) :
  Calls Try.prog 32 #[.agg #[.slice A0_0 l0_0.length c0_0, .slice A0_1 l0_1.length c0_1], .int .i64 a1, .int .i64 a2] w fun e w' => e = .returned (.tuple #[.string r1, .bool r2]) ∧ Below w.heap.size w w' := by
 have hu27 := Try.underlying27
 have HR0_0 := Aside0.mk hr0_0
 have HC0_0 := Aside0.mk hc0_0
 clear hr0_0 hc0_0
 have HR0_1 := Aside0.mk hr0_1
 have HC0_1 := Aside0.mk hc0_1
 clear hr0_1 hc0_1
 have HB := ak (Below.refl w.heap.size w)
 have H : ((impl_in.f a2 0 100).bind fun t470 => (if t470 = true then (impl_SectorText.l0 k a1 (⟨#[]⟩ : ByteArray) a2 0 l0_0 l0_1) else (some ((⟨#[]⟩ : ByteArray), false)))) = some (r1, r2) := h
 clear h
 replace H := Option.bind_eq_some_iff.mp H
 obtain ⟨t470, A40, H⟩ := H
 replace H : (if t470 = true then (impl_SectorText.l0 k a1 (⟨#[]⟩ : ByteArray) a2 0 l0_0 l0_1) else (some ((⟨#[]⟩ : ByteArray), false))) = some (r1, r2) := H
 have A4 := Aside0.mk A40
 clear A40
 by_cases c5 : t470 = true
 ·subst c5
  have H1 : (impl_SectorText.l0 k a1 (⟨#[]⟩ : ByteArray) a2 0 l0_0 l0_1) = some (r1, r2) := by rw [if_pos rfl] at H; exact H
  clear H
  have H := H1
  clear H1
  have H' := Aside0.mk H
  clear H
  go_enter Try.func32, Try.ntmps32
  go_wp2_with (first | ((with_reducible refine gate_dst (N := 3) rfl ?_); refine bx 3 #[.slice A0_0 l0_0.length c0_0, .slice A0_1 l0_1.length c0_1] 27 ?_; intro gb469 hg w6 hbox hb; replace BK469 := ak (hbox); replace GW469 := ak (bz hg (lG HB)); replace GE469 := ak (bz hg (lG HB)); replace HB := lB HB hb; clear hb hbox hg) | ((with_reducible refine gate_callee (f := 50) rfl ?_); refine gl (some 13) Try.func50 #[.int .i64 a2, .int .i64 0, .int .i64 100] ?_; (with_reducible refine (impl_in.calls a2 0 100 true _ A4.out).mono ?_); rintro e w' ⟨rfl, ⟨nd, rfl⟩⟩; refine ⟨_, rfl, ?_⟩))
  go_loopg [8, 16] k (fun kq v8 v16 w' => ∃ (x8_1 : ByteArray) (x16_1 : Int), v8 = .string x8_1 ∧ v16 = .int .i64 x16_1 ∧ Aside0 (impl_SectorText.l0 kq a1 x8_1 a2 x16_1 l0_0 l0_1 = some (r1, r2)) ∧ Aside0 (kq ≤ k) ∧ Aside0 (w'.heap[gb469]? = some (.cells #[(.slice A0_0 l0_0.length c0_0), (.slice A0_1 l0_1.length c0_1)] 27 (0, 0))) ∧ Aside0 (Below w.heap.size w w'))
  case atStart => exact ⟨((⟨#[]⟩ : ByteArray)), (0), (by first | rfl | (simp; done) | (simp [*]; done)), (by first | rfl | (simp; done) | (simp [*]; done)), H', ⟨Nat.le_refl _⟩, ⟨bG BK469⟩, ⟨by exact lT HB (gC GE469 gN)⟩⟩
  case round =>
   clear H'
   try clear p2
   try clear c3
   try clear c5
   obtain ⟨x8_1, x16_1, rfl, rfl, HA, HK1, BK469, HB⟩ := hrel
   cases gk with
   | zero => exact absurd HA.out (by simp [impl_SectorText.l0])
   | succ k1 =>
    have H := HA.out
    clear HA
    simp only [impl_SectorText.l0] at H
    by_cases c7 : x16_1 < a2
    ·rw [if_pos c7] at H
     have c7b0 : decide (x16_1 < a2) = true := decide_eq_true c7
     clear c7
     replace H := Option.bind_eq_some_iff.mp H
     obtain ⟨⟨t471, t472⟩, A80, H⟩ := H
     replace H : (if t472 = true then (if x8_1.size + t471.size ≤ 9223372036854775807 then (impl_SectorText.l0 k1 a1 (x8_1 ++ t471) a2 (wrap64 (x16_1 + 1)) l0_0 l0_1) else (none)) else (some ((⟨#[]⟩ : ByteArray), false))) = some (r1, r2) := H
     have A8 := Aside0.mk A80
     clear A80
     by_cases c9 : t472 = true
     ·subst c9
      have H1 : (if x8_1.size + t471.size ≤ 9223372036854775807 then (impl_SectorText.l0 k1 a1 (x8_1 ++ t471) a2 (wrap64 (x16_1 + 1)) l0_0 l0_1) else (none)) = some (r1, r2) := by rw [if_pos rfl] at H; exact H
      clear H
      have H := H1
      clear H1
      by_cases c10 : x8_1.size + t471.size ≤ 9223372036854775807
      ·rw [if_pos c10] at H
       have c10b0 := eq_true c10
       have c10b1 : decide (x8_1.size + t471.size ≤ 9223372036854775807) = true := decide_eq_true c10
       try have c10b2 : (9223372036854775807 < x8_1.size + t471.size) = False := eq_false (Nat.not_lt.2 c10)
       have H' := Aside0.mk H
       clear H
       have hcz11_0 : wr.cell? ⟨gb469, 0, none⟩ = some (.slice A0_0 l0_0.length c0_0) := bc BK469 0
       have hcz11_1 : wr.cell? ⟨gb469, 1, none⟩ = some (.slice A0_1 l0_1.length c0_1) := bc BK469 1
       have hfz11_0 := blk_frozen BK469.out 0
       have hfz11_1 := blk_frozen BK469.out 1
       go_wp2_with (first | ((with_reducible refine gate_callee (f := 15) rfl ?_); refine gl (some 24) Try.func15 #[.agg #[.slice A0_0 l0_0.length c0_0, .slice A0_1 l0_1.length c0_1], .int .i64 (wrap64 (a1 + x16_1))] ?_; (with_reducible refine (impl_ReadSector.calls k1 _ _ l0_0 _ _ l0_1 (wrap64 (a1 + x16_1)) t471 true _ ?side1 ?side2 ?side3 ?side4 A8.out).mono ?_); (case side1 => exact cG (Kd.C_below HR0_0.out HB.out)); (case side2 => exact HC0_0.out); (case side3 => exact cG (Kd.C_below HR0_1.out HB.out)); (case side4 => exact HC0_1.out); rintro e w12 ⟨rfl, hb⟩; refine ⟨_, rfl, ?_⟩; replace BK469 := bB BK469 hb; replace HB := ak (below_step (lT HB (gC GE469 gN)) hb); (try clear hb); (try clear hk)))
       go_roundg k1
       case measure => have := HK1.out; omega
       case rel => exact ⟨(x8_1 ++ t471), (wrap64 (x16_1 + 1)), (by first | rfl | (simp; done) | (simp [*]; done)), (by first | rfl | (simp; done) | (simp [*]; done)), H', ⟨by have := HK1.out; omega⟩, ⟨bG BK469⟩, ⟨by exact lT HB (gC GE469 gN)⟩⟩
      ·rw [if_neg c10] at H
       exact absurd H (by simp)
     ·replace c9 := Bool.eq_false_iff.mpr c9
      subst c9
      have H1 : (some ((⟨#[]⟩ : ByteArray), false)) = some (r1, r2) := by rw [if_neg (show ¬ (false = true) by decide)] at H; exact H
      clear H
      have H := H1
      clear H1
      simp only [Option.some.injEq, Prod.mk.injEq] at H
      obtain ⟨rfl, rfl⟩ := H
      have hcz13_0 : wr.cell? ⟨gb469, 0, none⟩ = some (.slice A0_0 l0_0.length c0_0) := bc BK469 0
      have hcz13_1 : wr.cell? ⟨gb469, 1, none⟩ = some (.slice A0_1 l0_1.length c0_1) := bc BK469 1
      have hfz13_0 := blk_frozen BK469.out 0
      have hfz13_1 := blk_frozen BK469.out 1
      go_wp2_with (first | ((with_reducible refine gate_callee (f := 15) rfl ?_); refine gl (some 24) Try.func15 #[.agg #[.slice A0_0 l0_0.length c0_0, .slice A0_1 l0_1.length c0_1], .int .i64 (wrap64 (a1 + x16_1))] ?_; (with_reducible refine (impl_ReadSector.calls k1 _ _ l0_0 _ _ l0_1 (wrap64 (a1 + x16_1)) t471 false _ ?side1 ?side2 ?side3 ?side4 A8.out).mono ?_); (case side1 => exact cG (Kd.C_below HR0_0.out HB.out)); (case side2 => exact HC0_0.out); (case side3 => exact cG (Kd.C_below HR0_1.out HB.out)); (case side4 => exact HC0_1.out); rintro e w14 ⟨rfl, hb⟩; refine ⟨_, rfl, ?_⟩; replace BK469 := bB BK469 hb; replace HB := ak (below_step (lT HB (gC GE469 gN)) hb); (try clear hb); (try clear hk)))
      go_ret2
      exact ⟨ew, by exact lT HB (gC GE469 gN)⟩
    ·rw [if_neg c7] at H
     have c7b0 : decide (x16_1 < a2) = false := decide_eq_false c7
     clear c7
     simp only [Option.some.injEq, Prod.mk.injEq] at H
     obtain ⟨rfl, rfl⟩ := H
     go_wp2
     go_ret2
     exact ⟨ew, by exact lT HB (gC GE469 gN)⟩
 ·replace c5 := Bool.eq_false_iff.mpr c5
  subst c5
  have H1 : (some ((⟨#[]⟩ : ByteArray), false)) = some (r1, r2) := by rw [if_neg (show ¬ (false = true) by decide)] at H; exact H
  clear H
  have H := H1
  clear H1
  simp only [Option.some.injEq, Prod.mk.injEq] at H
  obtain ⟨rfl, rfl⟩ := H
  go_enter Try.func32, Try.ntmps32
  go_wp2_with (first | ((with_reducible refine gate_dst (N := 3) rfl ?_); refine bx 3 #[.slice A0_0 l0_0.length c0_0, .slice A0_1 l0_1.length c0_1] 27 ?_; intro gb469 hg w15 hbox hb; replace BK469 := ak (hbox); replace GW469 := ak (bz hg (lG HB)); replace GE469 := ak (bz hg (lG HB)); replace HB := lB HB hb; clear hb hbox hg) | ((with_reducible refine gate_callee (f := 50) rfl ?_); refine gl (some 13) Try.func50 #[.int .i64 a2, .int .i64 0, .int .i64 100] ?_; (with_reducible refine (impl_in.calls a2 0 100 false _ A4.out).mono ?_); rintro e w' ⟨rfl, ⟨nd, rfl⟩⟩; refine ⟨_, rfl, ?_⟩))
  go_ret2
  exact ⟨ew, by exact lT HB (gC GE469 gN)⟩

end Go.Proofs.Ytjpngldnkgofaaa.PFnSegments
