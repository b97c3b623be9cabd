-- Written for this claim by a program of mine (a turned copy of the kit's print): functions as plain Lean, and their contracts. Lean checks it.
import Derived.Test.YtjpngldnkgofaaaPFnSegmentsx0
import Derived.Test.YtjpngldnkgofaaaPFnSegmentsx1
import Derived.Test.YtjpngldnkgofaaaPFnSegmentsx3
import Derived.Test.YtjpngldnkgofaaaPFnSegmentsx4
import Derived.Test.YtjpngldnkgofaaaPFnSegmentsx5
import Derived.Test.YtjpngldnkgofaaaPFnSegmentsx7
import Derived.Test.YtjpngldnkgofaaaVFnSegments1
namespace Go.Proofs.Ytjpngldnkgofaaa.PFnSegments
open Go.RowKit Go.Proofs.YtjpngldnkgofaaaW.PrintWords Go.Proofs.YtjpngldnkgofaaaW.PrintLast Go.Proofs.YtjpngldnkgofaaaW.PrintMore
attribute [local go_sem] max2_int min2_int max_two min_two max_three min_three max_four min_four   -- for this text's walks alone
set_option linter.unusedVariables false
set_option linter.unusedSimpArgs false

/-! ### spec_SegWrite: function 82 -/
def spec_SegWrite.j0 : Nat → Int → Int → ByteArray → Bool → List ByteArray → List (S63) → Option (List ByteArray × (List (S63)) × Bool)
 | 0, _, _, _, _, _, _ => none
 | k + 1, x1, x2, x3, x24, x287000, x287001 => if x24 = true then ((spec_l03Copy.f x287000 x287001).bind fun bt290 => (some (bt290.1, bt290.2, false))) else ((spec_SegFirst.f x1).bind fun t296 => ((spec_WriteBytes.f k x287000 x287001 t296 x2 x3).bind fun bt297 => (some (bt297.1, bt297.2.1, bt297.2.2))))
def spec_SegWrite.f (k : Nat) (l0_0 : List ByteArray) (l0_1 : List (S63)) (a1 : Int) (a2 : Int) (a3 : ByteArray) : Option (List ByteArray × (List (S63)) × Bool) := (spec_l01In.f a1 0 10).bind fun t288 => (if t288 = true then ((spec_l01In.f a2 0 256).bind fun t289 => (if t289 = true then (spec_SegWrite.j0 k a1 a2 a3 (decide ((a3.size : Int) > (wrap64 (256 - a2)))) l0_0 l0_1) else (spec_SegWrite.j0 k a1 a2 a3 true l0_0 l0_1))) else (spec_SegWrite.j0 k a1 a2 a3 true l0_0 l0_1))
theorem spec_SegWrite.mono_l : ∀ k, (∀ y0 y1 y2 y3 y4 y5, LeO (spec_SegWrite.j0 k y0 y1 y2 y3 y4 y5) (spec_SegWrite.j0 (k + 1) y0 y1 y2 y3 y4 y5))
 | 0 => fun _ _ _ _ _ _ r h => by simp [spec_SegWrite.j0] at h
 | k + 1 => by
  have ih0 := spec_SegWrite.mono_l k
  ·intro y0 y1 y2 y3 y4 y5
   unfold spec_SegWrite.j0
   repeat' first
   | (with_reducible exact ih0 _ _ _ _ _ _)
   | (with_reducible exact spec_WriteBytes.mono _ _ _ _ _ _)
   | (with_reducible exact LeO.refl _)
   | (with_reducible exact LeO.none _)
   | (with_reducible refine LeO.ite ?_ ?_)
   | (with_reducible refine LeO.bind ?_ (fun _ => ?_))
   | exact ih0 _ _ _ _ _ _
   | exact spec_WriteBytes.mono _ _ _ _ _ _
   | exact LeO.none _
   | refine LeO.ite ?_ ?_
   | refine LeO.bind ?_ (fun _ => ?_)
theorem spec_SegWrite.mono : ∀ a0 a1 a2 a3 a4 k, LeO (spec_SegWrite.f k a0 a1 a2 a3 a4) (spec_SegWrite.f (k + 1) a0 a1 a2 a3 a4) := by
 intro a0 a1 a2 a3 a4 k
 have ih0 := spec_SegWrite.mono_l k
 unfold spec_SegWrite.f
 repeat' first
   | (with_reducible exact ih0 _ _ _ _ _ _)
   | (with_reducible exact spec_WriteBytes.mono _ _ _ _ _ _)
   | (with_reducible exact LeO.refl _)
   | (with_reducible exact LeO.none _)
   | (with_reducible refine LeO.ite ?_ ?_)
   | (with_reducible refine LeO.bind ?_ (fun _ => ?_))
   | exact ih0 _ _ _ _ _ _
   | exact spec_WriteBytes.mono _ _ _ _ _ _
   | exact LeO.none _
   | refine LeO.ite ?_ ?_
   | refine LeO.bind ?_ (fun _ => ?_)
def spec_SegWrite.T3 : Bool × List (List Nat × List Nat) := (true, [([], []), ([], []), ([1], [1]), ([], []), ([], []), ([0, 2, 3, 4, 2], [0, 2, 3, 4]), ([5], [5]), ([5], [5]), ([6, 5, 0, 1, 2, 3, 4, 5, 6, 7], [6]), ([7, 8, 0, 1, 2, 3, 4, 5, 6, 7, 8], [7])])
def spec_SegWrite.B3 : List Nat := [0, 0, 2, 0, 0, 31, 63, 63, 255, 511]
theorem spec_SegWrite.tab3 : rtab .any (opsOf Try.f82 3) = spec_SegWrite.T3 := by kernel_rfl
theorem spec_SegWrite.bits3 : waitsOk spec_SegWrite.T3.2 spec_SegWrite.B3 = true := by kernel_rfl
set_option maxHeartbeats 8000000 in
set_option maxRecDepth 100000 in
theorem spec_SegWrite.calls (k : Nat) (A0_0 : Option Addr) (c0_0 : Nat) (l0_0 : List ByteArray) (A0_1 : Option Addr) (c0_1 : Nat) (l0_1 : List (S63)) (a1 : Int) (a2 : Int) (a3 : ByteArray) (r1 : List ByteArray) (r2 : List (S63)) (r3 : Bool) (w : World) (hr0_0 : Kd.C Kd.string w A0_0 l0_0.length l0_0) (hc0_0 : l0_0.length ≤ c0_0) (hr0_1 : Kd.C k63 w A0_1 l0_1.length l0_1) (hc0_1 : l0_1.length ≤ c0_1) (h : spec_SegWrite.f k l0_0 l0_1 a1 a2 a3 = some (r1, r2, r3)) :
  Calls Try.prog 82 #[.agg #[.slice A0_0 l0_0.length c0_0, .slice A0_1 l0_1.length c0_1], .int .i64 a1, .int .i64 a2, .string a3] w fun e w' => ∃ v0_ v1_ : Value, e = .returned (.tuple #[.agg #[v0_, v1_], .bool r3]) ∧ Kd.R Kd.string 9 w' w.heap.size (fun _ => True) v0_ r1 ∧ Kd.R k63 63 w' w.heap.size (fun _ => True) v1_ r2 ∧ Below w.heap.size w w' := by
 have hu27 := Try.underlying27
 have HR0_0 := Aside0.mk hr0_0
 have HC0_0 := Aside0.mk hc0_0
 clear hr0_0 hc0_0
 have HR0_1 := Aside0.mk hr0_1
 have HC0_1 := Aside0.mk hc0_1
 clear hr0_1 hc0_1
 have HB := ak (Below.refl w.heap.size w)
 have H : ((spec_l01In.f a1 0 10).bind fun t288 => (if t288 = true then ((spec_l01In.f a2 0 256).bind fun t289 => (if t289 = true then (spec_SegWrite.j0 k a1 a2 a3 (decide ((a3.size : Int) > (wrap64 (256 - a2)))) l0_0 l0_1) else (spec_SegWrite.j0 k a1 a2 a3 true l0_0 l0_1))) else (spec_SegWrite.j0 k a1 a2 a3 true l0_0 l0_1))) = some (r1, r2, r3) := h
 clear h
 have HC5 := Aside0.mk H
 clear H
 go_enter Try.func82, Try.ntmps82
 go_upto_region 1 with (first | ((with_reducible refine gate_dst (N := 4) rfl ?_); (try (refine gate_guard (by rfl) ?_; dsimp only)); refine bx 4 #[.slice A0_0 l0_0.length c0_0, .slice A0_1 l0_1.length c0_1] 27 ?_; intro gb286 hg w6 hbox hb; replace BK286 := ak (hbox); replace GW286 := ak (bz hg (lG HB)); replace GE286 := ak (bz hg (lG HB)); replace HB := lB HB hb; clear hb hbox hg) | ((with_reducible refine gate_dst (N := 8) rfl ?_); (try (refine gate_guard (by rfl) ?_; dsimp only)); refine bx 8 #[.slice none 0 0, .slice none 0 0] 27 ?_; intro gb287 hg w7 hbox hb; replace BK287 := ak (hbox); replace GW287 := ak (bz hg (lT HB (gC GE286 gN))); replace GE287 := ak (bz hg (lT HB (gC GE286 gN))); replace HB := ak (below_step (lT HB (gC GE286 gN)) hb); replace NB286_287 := ak (nl hg (bG BK286)); replace NB287_286 := ak (ng hg (bG BK286)); replace BK286 := bB BK286 hb; clear hb hbox hg))
 (try simp only [Act.put, List.setIfInBounds_toArray, List.set_cons_zero, List.set_cons_succ])
 go_cut [24] (fun v24 wc => ∃ (kq : Nat) (x24_4 : Bool), v24 = .bool x24_4 ∧ Aside0 (spec_SegWrite.j0 kq a1 a2 a3 x24_4 l0_0 l0_1 = some (r1, r2, r3)) ∧ Aside0 (kq ≤ k) ∧ Aside0 (wc.heap[gb286]? = some (.cells #[(.slice A0_0 l0_0.length c0_0), (.slice A0_1 l0_1.length c0_1)] 27 (0, 0))) ∧ Aside0 (wc.heap[gb287]? = some (.cells #[(.slice none 0 0), (.slice none 0 0)] 27 (0, 0))) ∧ Aside0 (Below w.heap.size w wc))
 case first =>
  have H := HC5.out
  clear HC5
  replace H := Option.bind_eq_some_iff.mp H
  obtain ⟨t288, A80, H⟩ := H
  replace H : (if t288 = true then ((spec_l01In.f a2 0 256).bind fun t289 => (if t289 = true then (spec_SegWrite.j0 k a1 a2 a3 (decide ((a3.size : Int) > (wrap64 (256 - a2)))) l0_0 l0_1) else (spec_SegWrite.j0 k a1 a2 a3 true l0_0 l0_1))) else (spec_SegWrite.j0 k a1 a2 a3 true l0_0 l0_1)) = some (r1, r2, r3) := H
  have A8 := Aside0.mk A80
  clear A80
  by_cases c9 : t288 = true
  ·subst c9
   have H1 : ((spec_l01In.f a2 0 256).bind fun t289 => (if t289 = true then (spec_SegWrite.j0 k a1 a2 a3 (decide ((a3.size : Int) > (wrap64 (256 - a2)))) l0_0 l0_1) else (spec_SegWrite.j0 k a1 a2 a3 true l0_0 l0_1))) = some (r1, r2, r3) := by rw [if_pos rfl] at H; exact H
   clear H
   have H := H1
   clear H1
   replace H := Option.bind_eq_some_iff.mp H
   obtain ⟨t289, A100, H⟩ := H
   replace H : (if t289 = true then (spec_SegWrite.j0 k a1 a2 a3 (decide ((a3.size : Int) > (wrap64 (256 - a2)))) l0_0 l0_1) else (spec_SegWrite.j0 k a1 a2 a3 true l0_0 l0_1)) = some (r1, r2, r3) := H
   have A10 := Aside0.mk A100
   clear A100
   by_cases c11 : t289 = true
   ·subst c11
    have H1 : (spec_SegWrite.j0 k a1 a2 a3 (decide ((a3.size : Int) > (wrap64 (256 - a2)))) l0_0 l0_1) = some (r1, r2, r3) := by rw [if_pos rfl] at H; exact H
    clear H
    have H := H1
    clear H1
    have H' := Aside0.mk H
    clear H
    go_wp2_with (first | ((with_reducible refine gate_callee (f := 49) rfl ?_); refine gl (some 11) Try.func49 #[.int .i64 a1, .int .i64 0, .int .i64 10] ?_; (with_reducible refine (spec_l01In.calls a1 0 10 true _ A8.out).mono ?_); rintro e w' ⟨rfl, ⟨nd, rfl⟩⟩; refine ⟨_, rfl, ?_⟩) | (go_at_call 49; (with_reducible refine (spec_l01In.calls a2 0 256 true _ A10.out).mono ?_); rintro e w' ⟨rfl, ⟨nd, rfl⟩⟩))
    go_meet
    case rel => exact ⟨_, (decide ((a3.size : Int) > (wrap64 (256 - a2)))), (by first | rfl | (simp; done) | (simp [*]; done)), H', ⟨by first | omega | exact Nat.le_refl _⟩, ⟨bG BK286⟩, ⟨bG BK287⟩, ⟨by exact lT HB (gC GE286 (gC GE287 gN))⟩⟩
   ·replace c11 := Bool.eq_false_iff.mpr c11
    subst c11
    have H1 : (spec_SegWrite.j0 k a1 a2 a3 true l0_0 l0_1) = some (r1, r2, r3) := by rw [if_neg (show ¬ (false = true) by decide)] at H; exact H
    clear H
    have H := H1
    clear H1
    have H' := Aside0.mk H
    clear H
    go_wp2_with (first | ((with_reducible refine gate_callee (f := 49) rfl ?_); refine gl (some 11) Try.func49 #[.int .i64 a1, .int .i64 0, .int .i64 10] ?_; (with_reducible refine (spec_l01In.calls a1 0 10 true _ A8.out).mono ?_); rintro e w' ⟨rfl, ⟨nd, rfl⟩⟩; refine ⟨_, rfl, ?_⟩) | (go_at_call 49; (with_reducible refine (spec_l01In.calls a2 0 256 false _ A10.out).mono ?_); rintro e w' ⟨rfl, ⟨nd, rfl⟩⟩))
    go_meet
    case rel => exact ⟨_, (true), (by first | rfl | (simp; done) | (simp [*]; done)), H', ⟨by first | omega | exact Nat.le_refl _⟩, ⟨bG BK286⟩, ⟨bG BK287⟩, ⟨by exact lT HB (gC GE286 (gC GE287 gN))⟩⟩
  ·replace c9 := Bool.eq_false_iff.mpr c9
   subst c9
   have H1 : (spec_SegWrite.j0 k a1 a2 a3 true l0_0 l0_1) = some (r1, r2, r3) := by rw [if_neg (show ¬ (false = true) by decide)] at H; exact H
   clear H
   have H := H1
   clear H1
   have H' := Aside0.mk H
   clear H
   go_wp2_with (first | ((with_reducible refine gate_callee (f := 49) rfl ?_); refine gl (some 11) Try.func49 #[.int .i64 a1, .int .i64 0, .int .i64 10] ?_; (with_reducible refine (spec_l01In.calls a1 0 10 false _ A8.out).mono ?_); rintro e w' ⟨rfl, ⟨nd, rfl⟩⟩; refine ⟨_, rfl, ?_⟩))
   go_meet
   case rel => exact ⟨_, (true), (by first | rfl | (simp; done) | (simp [*]; done)), H', ⟨by first | omega | exact Nat.le_refl _⟩, ⟨bG BK286⟩, ⟨bG BK287⟩, ⟨by exact lT HB (gC GE286 (gC GE287 gN))⟩⟩
 case rest =>
  clear HC5
  try clear c1
  try clear p2
  try clear c4
  try clear p6
  try clear c8
  try clear c9
  try clear c11
  obtain ⟨kq, x24_4, rfl, HA, HJ4, BK286, BK287, HB⟩ := hcut
  cases kq with
  | zero => exact absurd HA.out (by simp [spec_SegWrite.j0])
  | succ kj4 =>
   have H := HA.out
   clear HA
   simp only [spec_SegWrite.j0] at H
   by_cases c12 : x24_4 = true
   ·subst c12
    have H1 : ((spec_l03Copy.f l0_0 l0_1).bind fun bt290 => (some (bt290.1, bt290.2, false))) = some (r1, r2, r3) := by rw [if_pos rfl] at H; exact H
    clear H
    have H := H1
    clear H1
    replace H := Option.bind_eq_some_iff.mp H
    obtain ⟨⟨t290, t293⟩, A130, H⟩ := H
    replace H : (some (t290, t293, false)) = some (r1, r2, r3) := H
    have A13 := Aside0.mk A130
    clear A130
    simp only [Option.some.injEq, Prod.mk.injEq] at H
    obtain ⟨rfl, rfl, rfl⟩ := H
    have hnb14 := NB286_287.out
    have hnc14 := NB287_286.out
    have hcz15_0 : wc.cell? ⟨gb286, 0, none⟩ = some (.slice A0_0 l0_0.length c0_0) := bc BK286 0
    have hcz15_1 : wc.cell? ⟨gb286, 1, none⟩ = some (.slice A0_1 l0_1.length c0_1) := bc BK286 1
    have hfz15_0 := blk_frozen BK286.out 0
    have hfz15_1 := blk_frozen BK286.out 1
    go_wp2_with (first | ((with_reducible refine gate_callee (f := 58) rfl ?_); refine gl (some 26) Try.func58 #[.agg #[.slice A0_0 l0_0.length c0_0, .slice A0_1 l0_1.length c0_1]] ?_; (with_reducible refine (spec_l03Copy.calls _ _ l0_0 _ _ l0_1 t290 t293 _ ?side1 ?side2 ?side3 ?side4 A13.out).mono ?_); (case side1 => exact cG (Kd.C_below HR0_0.out HB.out)); (case side2 => exact HC0_0.out); (case side3 => exact cG (Kd.C_below HR0_1.out HB.out)); (case side4 => exact HC0_1.out); rintro e w16 ⟨v291, v294, rfl, ho0, ho1, hb⟩; refine ⟨_, rfl, ?_⟩; replace HO292 := ak (Kd.R_lower ho0 (below_size (lT HB (gC GE286 (gC GE287 gN))))); replace HO295 := ak (Kd.R_lower ho1 (below_size (lT HB (gC GE286 (gC GE287 gN))))); replace BK286 := bB BK286 hb; replace BK287 := bB BK287 hb; replace HB := ak (below_step (lT HB (gC GE286 (gC GE287 gN))) hb); (try clear hb); (try clear hk); (try clear ho0); (try clear ho1); obtain ⟨Ao17, co17, eo17⟩ := Kd.R_slice HO292.out; subst eo17; obtain ⟨hcz18_0, hcz18_1, hfz18_0, hfz18_1⟩ := bC2 BK287; obtain ⟨Ao19, co19, eo19⟩ := Kd.R_slice HO295.out; subst eo19))
    refine bodyPost_ret (results_ct rfl _ _ gb287 27 #[.slice Ao17 t290.length co17, .slice Ao19 t293.length co19] (0, 0) _ rfl (bW BK287) Try.underlying27 rfl (by kernel_rfl)) rfl ?_
    exact ⟨_, _, ew, by exact Kd.R_mono (rT HO292 BK287 (by decide)) (fun _ hk => trivial), by exact Kd.R_mono (rT HO295 BK287 (by decide)) (fun _ hk => trivial), by exact lT HB (gC GE286 (gC GE287 gN))⟩
   ·replace c12 := Bool.eq_false_iff.mpr c12
    subst c12
    have H1 : ((spec_SegFirst.f a1).bind fun t296 => ((spec_WriteBytes.f kj4 l0_0 l0_1 t296 a2 a3).bind fun bt297 => (some (bt297.1, bt297.2.1, bt297.2.2)))) = some (r1, r2, r3) := by rw [if_neg (show ¬ (false = true) by decide)] at H; exact H
    clear H
    have H := H1
    clear H1
    replace H := Option.bind_eq_some_iff.mp H
    obtain ⟨t296, A200, H⟩ := H
    replace H : ((spec_WriteBytes.f kj4 l0_0 l0_1 t296 a2 a3).bind fun bt297 => (some (bt297.1, bt297.2.1, bt297.2.2))) = some (r1, r2, r3) := H
    have A20 := Aside0.mk A200
    clear A200
    replace H := Option.bind_eq_some_iff.mp H
    obtain ⟨⟨t297, t300, t303⟩, A210, H⟩ := H
    replace H : (some (t297, t300, t303)) = some (r1, r2, r3) := H
    have A21 := Aside0.mk A210
    clear A210
    simp only [Option.some.injEq, Prod.mk.injEq] at H
    obtain ⟨rfl, rfl, rfl⟩ := H
    try go_wp2
    replace BK286 := ak (blk_drew BK286.out)
    replace BK287 := ak (blk_drew BK287.out)
    replace HB := ak (below_drew1 HB.out)
    refine start_ (n := 10) (S := fun w' => w'.cell? ⟨gb286, 0, none⟩ = some (.slice A0_0 l0_0.length c0_0) ∧ w'.cell? ⟨gb286, 1, none⟩ = some (.slice A0_1 l0_1.length c0_1)) (ds := []) #[f_,f_,f_,f_,f_,f_,f_,f_,f_,f_] (by kernel_rfl) rfl rfl ⟨bc BK286 0, bc BK286 1⟩ (fun hHeld => ?_); refine with_tabW spec_SegWrite.tab3 spec_SegWrite.bits3 (fun HT_ HW_ => ?_)
    generalize wc.drew = w22 at BK286 BK287 HB hHeld ⊢
    refine pu 1 28 (fb 10 2) HT_ ?_
    refine pu 3 30 (fb 10 10) HT_ ?_
    refine pu 4 31 (fb 10 26) HT_ ?_
    refine tk 0 27 (fb 10 27) HT_ HW_ hHeld ?_
    refine on 2 (some 29) (fb 10 31) HT_ (fun K hK => ?_)
    refine goes_ Try.func61 (by kernel_rfl) rfl #[.int .i64 a1] (by rfl) rfl rfl (by (try simp only [List.map_toArray, List.map_cons, List.map_nil]); first | done | rfl | (simp only [List.length_drop, List.length_take]; rfl)) ?_
    with_reducible refine (spec_SegFirst.calls a1 t296 _ A20.out).mono ?_
    rintro e w' ⟨rfl, ⟨nd, rfl⟩⟩
    refine ⟨_, rfl, ?_⟩
    refine hK.out _ _ ⟨bc BK286 0, bc BK286 1⟩ (fun hHeld => ?_)
    clear hK K
    refine nm ?_
    refine on 5 (some 32) (fb 10 63) HT_ (fun K hK => ?_)
    refine goes_ Try.func71 (by kernel_rfl) rfl #[.agg #[.slice A0_0 l0_0.length c0_0, .slice A0_1 l0_1.length c0_1], .int .i64 t296, .int .i64 a2, .string a3] (by rfl) rfl rfl (by (try simp only [List.map_toArray, List.map_cons, List.map_nil]); first | done | rfl | (simp only [List.length_drop, List.length_take]; rfl)) ?_
    with_reducible refine (spec_WriteBytes.calls kj4 _ _ l0_0 _ _ l0_1 t296 a2 a3 t297 t300 t303 _ ?side1 ?side2 ?side3 ?side4 A21.out).mono ?_
    (case side1 => repeat (first | exact (Kd.C_below HR0_0.out (lT HB (gC GE286 (gC GE287 gN)))) | (with_reducible refine Kd.C_alloc ?_ _) | (with_reducible refine Kd.C_drewN ?_ _) | (with_reducible refine Kd.C_drew ?_)))
    (case side2 => exact HC0_0.out)
    (case side3 => repeat (first | exact (Kd.C_below HR0_1.out (lT HB (gC GE286 (gC GE287 gN)))) | (with_reducible refine Kd.C_alloc ?_ _) | (with_reducible refine Kd.C_drewN ?_ _) | (with_reducible refine Kd.C_drew ?_)))
    (case side4 => exact HC0_1.out)
    rintro e w23 ⟨v298, v301, rfl, ho0, ho1, hb⟩
    refine ⟨_, rfl, ?_⟩
    replace HO299 := ak (Kd.R_lower ho0 (below_size (lT HB (gC GE286 (gC GE287 gN)))))
    replace HO302 := ak (Kd.R_lower ho1 (below_size (lT HB (gC GE286 (gC GE287 gN)))))
    replace BK286 := bB BK286 hb
    replace BK287 := bB BK287 hb
    replace HB := ak (below_step (lT HB (gC GE286 (gC GE287 gN))) hb)
    (try clear hb)
    (try clear hb2)
    (try clear hk)
    (try clear hi)
    (try clear ho0)
    (try clear ho1)
    obtain ⟨Ao24, co24, eo24⟩ := Kd.R_slice HO299.out
    (first | subst eo24 | (injection eo24 with f1_ f2_ f3_; have f4_ := f1_.symm; have f5_ := f3_.symm; clear f1_ f2_ f3_; subst f4_; subst f5_))
    obtain ⟨Ao26, co26, eo26⟩ := Kd.R_slice HO302.out
    (first | subst eo26 | (injection eo26 with f1_ f2_ f3_; have f4_ := f1_.symm; have f5_ := f3_.symm; clear f1_ f2_ f3_; subst f4_; subst f5_))
    refine hK.out _ _ ⟨bc BK286 0, bc BK286 1⟩ (fun hHeld => ?_)
    clear hK K
    refine nm ?_
    refine pu 6 33 (fb 10 127) HT_ ?_
    refine pu 7 34 (fb 10 255) HT_ ?_
    refine on 8 none (fb 10 511) HT_ (fun K hK => ?_)
    have hs25 : w23.cell? ⟨gb287, 0, none⟩ = some (.slice none 0 0) := bc BK287 0
    have hfs25 := blk_frozen BK287.out 0
    have hns25_0 := NB286_287.out
    have hms25_0 := NB287_286.out
    have hs27 : w23.cell? ⟨gb287, 1, none⟩ = some (.slice none 0 0) := bc BK287 1
    have hfs27 := blk_frozen BK287.out 1
    have hns27_0 := NB286_287.out
    have hms27_0 := NB287_286.out
    refine skip_ (w1 := ?_) (by rfl) rfl ?_ ?_
    rotate_left
    ·go_simp
     rfl
    refine hK.out _ _ ⟨((cell_far (p := ⟨gb287, _, none⟩) NB286_287.out _).trans (((cell_far (p := ⟨gb287, _, none⟩) NB286_287.out _).trans (hHeld.1)))), ((cell_far (p := ⟨gb287, _, none⟩) NB286_287.out _).trans (((cell_far (p := ⟨gb287, _, none⟩) NB286_287.out _).trans (hHeld.2))))⟩ (fun hHeld => ?_)
    clear hK K
    refine pu 9 9 (fb 10 1023) HT_ ?_
    refine done_ (done_of HT_.out (by kernel_rfl)) ?_
    try go_wp2
    refine bodyPost_ret (results_ct rfl _ _ gb287 27 #[.slice Ao24 t297.length co24, .slice Ao26 t300.length co26] (0, 0) _ rfl (bW BK287) Try.underlying27 rfl (by kernel_rfl)) rfl ?_
    exact ⟨_, _, ew, by exact Kd.R_mono (rT HO299 BK287 (by decide)) (fun _ hk => trivial), by exact Kd.R_mono (rT HO302 BK287 (by decide)) (fun _ hk => trivial), by exact lT HB (gC GE286 (gC GE287 gN))⟩

/-! ### spec_l05Disk: function 59 -/
mutual
def spec_l05Disk.l0 : Nat → Int → List Int → Int → Int → List ByteArray → List (S63) → Option (List ByteArray × (List (S63)) × Int × Int)
 | 0, _, _, _, _, _, _ => none
 | k + 1, x5, x1000, x1001, x1002, x316000, x316001 => (spec_l01Below.f x1000 x1001 x1002 4).bind fun bt316 => (if x5 < bt316.1 then ((spec_l01Below.f x1000 bt316.2.1 bt316.2.2 5).bind fun bt319 => ((spec_FrameText.f k (wrap64 (1 + x5)) 1 (⟨#[115, 101, 103]⟩ : ByteArray)).bind fun bt322 => (spec_l05Disk.l1 k x5 bt319.1 (wrap64 (1 + x5)) bt322.1 0 x1000 bt319.2.1 bt319.2.2 x316000 x316001))) else (some (x316000, x316001, bt316.2.1, bt316.2.2)))
def spec_l05Disk.l1 : Nat → Int → Int → Int → ByteArray → Int → List Int → Int → Int → List ByteArray → List (S63) → Option (List ByteArray × (List (S63)) × Int × Int)
 | 0, _, _, _, _, _, _, _, _, _, _ => none
 | k + 1, x5, x6, x7, x8, x10, x1000, x1001, x1002, x316000, x316001 => (spec_l01Below.f x1000 x1001 x1002 4).bind fun bt324 => (if x10 < bt324.1 then ((spec_l04Frame.f k x1000 bt324.2.1 bt324.2.2).bind fun bt327 => ((spec_FrameText.f k x7 bt327.2.1 bt327.2.2.1).bind fun bt333 => (if x8.size + bt333.1.size ≤ 9223372036854775807 then (spec_l05Disk.l1 k x5 x6 x7 (x8 ++ bt333.1) (wrap64 (x10 + 1)) x1000 bt327.2.2.2.1 bt327.2.2.2.2 x316000 x316001) else (none)))) else ((spec_SegWrite.f k x316000 x316001 x6 0 x8).bind fun bt335 => ((spec_FlushDisk.f k bt335.1 bt335.2.1).bind fun bt342 => (spec_l05Disk.l0 k (wrap64 (x5 + 1)) x1000 bt324.2.1 bt324.2.2 bt342.1 bt342.2))))
end
def spec_l05Disk.f (k : Nat) (s0_0 : List Int) (s0_1 : Int) (s0_2 : Int) : Option (List ByteArray × (List (S63)) × Int × Int) := (spec_l01Below.f s0_0 s0_1 s0_2 3).bind fun bt305 => ((spec_DiskNew.f k (wrap64 (8 + (wrap64 ((wrap64 (5 + bt305.1)) * 8))))).bind fun bt308 => (spec_l05Disk.l0 k 0 s0_0 bt305.2.1 bt305.2.2 bt308.1 bt308.2.1))
theorem spec_l05Disk.mono_l : ∀ k, (∀ y0 y1 y2 y3 y4 y5, LeO (spec_l05Disk.l0 k y0 y1 y2 y3 y4 y5) (spec_l05Disk.l0 (k + 1) y0 y1 y2 y3 y4 y5)) ∧ (∀ y0 y1 y2 y3 y4 y5 y6 y7 y8 y9, LeO (spec_l05Disk.l1 k y0 y1 y2 y3 y4 y5 y6 y7 y8 y9) (spec_l05Disk.l1 (k + 1) y0 y1 y2 y3 y4 y5 y6 y7 y8 y9))
 | 0 => ⟨fun _ _ _ _ _ _ r h => by simp [spec_l05Disk.l0] at h, fun _ _ _ _ _ _ _ _ _ _ r h => by simp [spec_l05Disk.l1] at h⟩
 | k + 1 => by
  obtain ⟨ih0, ih1⟩ := spec_l05Disk.mono_l k
  refine ⟨?_, ?_⟩
  ·intro y0 y1 y2 y3 y4 y5
   unfold spec_l05Disk.l0
   repeat' first
   | (with_reducible exact ih0 _ _ _ _ _ _)
   | (with_reducible exact ih1 _ _ _ _ _ _ _ _ _ _)
   | (with_reducible exact spec_DiskNew.mono _ _)
   | (with_reducible exact spec_FlushDisk.mono _ _ _)
   | (with_reducible exact spec_FrameText.mono _ _ _ _)
   | (with_reducible exact spec_SegWrite.mono _ _ _ _ _ _)
   | (with_reducible exact spec_l04Frame.mono _ _ _ _)
   | (with_reducible exact LeO.refl _)
   | (with_reducible exact LeO.none _)
   | (with_reducible refine LeO.ite ?_ ?_)
   | (with_reducible refine LeO.bind ?_ (fun _ => ?_))
   | exact ih0 _ _ _ _ _ _
   | exact ih1 _ _ _ _ _ _ _ _ _ _
   | exact spec_DiskNew.mono _ _
   | exact spec_FlushDisk.mono _ _ _
   | exact spec_FrameText.mono _ _ _ _
   | exact spec_SegWrite.mono _ _ _ _ _ _
   | exact spec_l04Frame.mono _ _ _ _
   | exact LeO.none _
   | refine LeO.ite ?_ ?_
   | refine LeO.bind ?_ (fun _ => ?_)
  ·intro y0 y1 y2 y3 y4 y5 y6 y7 y8 y9
   unfold spec_l05Disk.l1
   repeat' first
   | (with_reducible exact ih0 _ _ _ _ _ _)
   | (with_reducible exact ih1 _ _ _ _ _ _ _ _ _ _)
   | (with_reducible exact spec_DiskNew.mono _ _)
   | (with_reducible exact spec_FlushDisk.mono _ _ _)
   | (with_reducible exact spec_FrameText.mono _ _ _ _)
   | (with_reducible exact spec_SegWrite.mono _ _ _ _ _ _)
   | (with_reducible exact spec_l04Frame.mono _ _ _ _)
   | (with_reducible exact LeO.refl _)
   | (with_reducible exact LeO.none _)
   | (with_reducible refine LeO.ite ?_ ?_)
   | (with_reducible refine LeO.bind ?_ (fun _ => ?_))
   | exact ih0 _ _ _ _ _ _
   | exact ih1 _ _ _ _ _ _ _ _ _ _
   | exact spec_DiskNew.mono _ _
   | exact spec_FlushDisk.mono _ _ _
   | exact spec_FrameText.mono _ _ _ _
   | exact spec_SegWrite.mono _ _ _ _ _ _
   | exact spec_l04Frame.mono _ _ _ _
   | exact LeO.none _
   | refine LeO.ite ?_ ?_
   | refine LeO.bind ?_ (fun _ => ?_)
theorem spec_l05Disk.mono : ∀ a0 a1 a2 k, LeO (spec_l05Disk.f k a0 a1 a2) (spec_l05Disk.f (k + 1) a0 a1 a2) := by
 intro a0 a1 a2 k
 obtain ⟨ih0, ih1⟩ := spec_l05Disk.mono_l k
 unfold spec_l05Disk.f
 repeat' first
   | (with_reducible exact ih0 _ _ _ _ _ _)
   | (with_reducible exact ih1 _ _ _ _ _ _ _ _ _ _)
   | (with_reducible exact spec_DiskNew.mono _ _)
   | (with_reducible exact spec_FlushDisk.mono _ _ _)
   | (with_reducible exact spec_FrameText.mono _ _ _ _)
   | (with_reducible exact spec_SegWrite.mono _ _ _ _ _ _)
   | (with_reducible exact spec_l04Frame.mono _ _ _ _)
   | (with_reducible exact LeO.refl _)
   | (with_reducible exact LeO.none _)
   | (with_reducible refine LeO.ite ?_ ?_)
   | (with_reducible refine LeO.bind ?_ (fun _ => ?_))
   | exact ih0 _ _ _ _ _ _
   | exact ih1 _ _ _ _ _ _ _ _ _ _
   | exact spec_DiskNew.mono _ _
   | exact spec_FlushDisk.mono _ _ _
   | exact spec_FrameText.mono _ _ _ _
   | exact spec_SegWrite.mono _ _ _ _ _ _
   | exact spec_l04Frame.mono _ _ _ _
   | exact LeO.none _
   | refine LeO.ite ?_ ?_
   | refine LeO.bind ?_ (fun _ => ?_)
set_option maxHeartbeats 8000000 in
set_option maxRecDepth 100000 in
theorem spec_l05Disk.calls (k : Nat) (g : Nat) (s0_0 : List Int) (s0_1 : Int) (s0_2 : Int) (r1 : List ByteArray) (r2 : List (S63)) (r3 : Int) (r4 : Int) (w0 w : World) (hI : IsS80 w0 w g s0_0 s0_1 s0_2) (hB : Below w0.heap.size w0 w) (h : spec_l05Disk.f k s0_0 s0_1 s0_2 = some (r1, r2, r3, r4)) :
  Calls Try.prog 59 #[.pointer (some ⟨g, 0, none⟩)] w fun e w' => ∃ v0_ v1_ : Value, e = .returned (.agg #[v0_, v1_]) ∧ Kd.R Kd.string 9 w' w.heap.size (fun _ => True) v0_ r1 ∧ Kd.R k63 63 w' w.heap.size (fun _ => True) v1_ r2 ∧ IsS80 w0 w' g s0_0 r3 r4 ∧ Below w0.heap.size w0 w' ∧ KeepBut w w' g none := by
 have hu27 := Try.underlying27
 have hu74 := Try.underlying74
 have HI0 := Aside0.mk hI
 have HK := ak (KeepBut.refl w g none)
 have HL := Aside0.mk hB.size
 clear hI
 have HW0 := Aside0.mk hB.size
 have HB := Aside0.mk hB
 clear hB
 have H : ((spec_l01Below.f s0_0 s0_1 s0_2 3).bind fun bt305 => ((spec_DiskNew.f k (wrap64 (8 + (wrap64 ((wrap64 (5 + bt305.1)) * 8))))).bind fun bt308 => (spec_l05Disk.l0 k 0 s0_0 bt305.2.1 bt305.2.2 bt308.1 bt308.2.1))) = some (r1, r2, r3, r4) := h
 clear h
 replace H := Option.bind_eq_some_iff.mp H
 obtain ⟨⟨t305, t306, t307⟩, A20, H⟩ := H
 replace H : ((spec_DiskNew.f k (wrap64 (8 + (wrap64 ((wrap64 (5 + t305)) * 8))))).bind fun bt308 => (spec_l05Disk.l0 k 0 s0_0 t306 t307 bt308.1 bt308.2.1)) = some (r1, r2, r3, r4) := H
 have A2 := Aside0.mk A20
 clear A20
 replace H := Option.bind_eq_some_iff.mp H
 obtain ⟨⟨t308, t311, t314⟩, A30, H⟩ := H
 replace H : (spec_l05Disk.l0 k 0 s0_0 t306 t307 t308 t311) = some (r1, r2, r3, r4) := H
 have A3 := Aside0.mk A30
 clear A30
 have H' := Aside0.mk H
 clear H
 go_enter Try.func59, Try.ntmps59
 go_wp2_with (first | ((with_reducible refine gate_dst (N := 2) rfl ?_); refine bx 2 #[.slice none 0 0, .slice none 0 0] 27 ?_; intro gb304 hg w4 hbox hb; replace HB := ak (below_step (lT HB gN) hb); replace BK304 := ak (hbox); replace GW304 := ak ((by rw [hg]; exact (keep_size (w := w) (g := g) (row := none) (kT HK gN)) : w.heap.size ≤ gb304)); replace GE304 := ak ((Nat.le_trans HW0.out (by rw [hg]; exact (keep_size (w := w) (g := g) (row := none) (kT HK gN)) : w.heap.size ≤ gb304) : w0.heap.size ≤ gb304)); replace HK := ak (KeepBut.trans (kT HK gN) (KeepBut.of_below hb g none) (.inl rfl)); replace NB0_304 := ak ((by rw [hg]; exact Nat.ne_of_lt (IsS80.lt (show IsS80 w0 _ g s0_0 s0_1 s0_2 from IsS80.T_ HI0 nN)) : g ≠ gb304)); replace NB304_0 := ak ((by rw [hg]; exact Nat.ne_of_gt (IsS80.lt (show IsS80 w0 _ g s0_0 s0_1 s0_2 from IsS80.T_ HI0 nN)) : gb304 ≠ g)); replace HI0 := ak (IsS80.below (IsS80.T_ HI0 nN) hb); clear hb hbox hg) | ((with_reducible refine gate_callee (f := 47) rfl ?_); refine gl (some 16) Try.func47 #[.pointer (some ⟨g, 0, none⟩), .int .i64 3] ?_; (with_reducible refine (spec_l01Below.calls g s0_0 s0_1 s0_2 3 t305 t306 t307 w0 _ ?side1 ?side2 A2.out).mono ?_); (case side1 => exact IsS80.T_ HI0 (nC NB0_304 nN)); (case side2 => exact lT HB (gC GE304 gN)); rintro e w5 ⟨rfl, hi, hb, hk⟩; refine ⟨_, rfl, ?_⟩; replace BK304 := ak (KeepBut.blk hk (g' := gb304) (o := .cells #[.slice none 0 0, .slice none 0 0] 27 (0, 0)) (bG BK304) NB304_0.out (by simp)); replace HK := ak (KeepBut.trans (kT HK (gC GW304 gN)) hk (.inl rfl)); replace HB := ak (hb); replace HI0 := ak (hi); (try clear hb); (try clear hk); (try clear hi)) | ((with_reducible refine gate_callee (f := 67) rfl ?_); refine gl (some 20) Try.func67 #[.int .i64 (wrap64 (8 + (wrap64 ((wrap64 (5 + t305)) * 8))))] ?_; (with_reducible refine (spec_DiskNew.calls k (wrap64 (8 + (wrap64 ((wrap64 (5 + t305)) * 8)))) t308 t311 t314 _ A3.out).mono ?_); rintro e w6 ⟨v309, v312, rfl, ho0, ho1, hb⟩; refine ⟨_, rfl, ?_⟩; replace HO310 := ak (Kd.R_lower ho0 (keep_size (w := w) (g := g) (row := none) (kT HK (gC GW304 gN)))); replace HO313 := ak (Kd.R_lower ho1 (keep_size (w := w) (g := g) (row := none) (kT HK (gC GW304 gN)))); replace BK304 := bB BK304 hb; replace HK := ak (KeepBut.trans (kT HK (gC GW304 gN)) (KeepBut.of_below hb g none) (.inl rfl)); replace HB := ak (below_step (lT HB (gC GE304 gN)) hb); replace HI0 := ak (IsS80.below (IsS80.T_ HI0 (nC NB0_304 nN)) hb); (try clear hb); (try clear hk); (try clear hi); (try clear ho0); (try clear ho1)) | ((with_reducible refine gate_dst (N := 3) rfl ?_); refine bx 3 #[.slice none 0 0, .slice none 0 0] 27 ?_; intro gb315 hg w7 hbox hb; replace HO310 := rB HO310 hb; replace HO313 := rB HO313 hb; replace HB := ak (below_step (lT HB (gC GE304 gN)) hb); replace BK315 := ak (hbox); replace GW315 := ak ((by rw [hg]; exact (keep_size (w := w) (g := g) (row := none) (kT HK (gC GW304 gN))) : w.heap.size ≤ gb315)); replace GE315 := ak ((Nat.le_trans HW0.out (by rw [hg]; exact (keep_size (w := w) (g := g) (row := none) (kT HK (gC GW304 gN))) : w.heap.size ≤ gb315) : w0.heap.size ≤ gb315)); replace HK := ak (KeepBut.trans (kT HK (gC GW304 gN)) (KeepBut.of_below hb g none) (.inl rfl)); replace NB304_315 := ak (nl hg (bG BK304)); replace NB315_304 := ak (ng hg (bG BK304)); replace BK304 := bB BK304 hb; replace NB0_315 := ak ((by rw [hg]; exact Nat.ne_of_lt (IsS80.lt (show IsS80 w0 _ g s0_0 t306 t307 from IsS80.T_ HI0 (nC NB0_304 nN))) : g ≠ gb315)); replace NB315_0 := ak ((by rw [hg]; exact Nat.ne_of_gt (IsS80.lt (show IsS80 w0 _ g s0_0 t306 t307 from IsS80.T_ HI0 (nC NB0_304 nN))) : gb315 ≠ g)); replace HI0 := ak (IsS80.below (IsS80.T_ HI0 (nC NB0_304 nN)) hb); clear hb hbox hg; obtain ⟨Ao8, co8, eo8⟩ := Kd.R_slice HO310.out; subst eo8; have hnb9 := NB315_304.out; have hnc9 := NB304_315.out; have hnb10 := NB315_0.out; have hnc10 := NB0_315.out; obtain ⟨hcz11_0, hcz11_1, hfz11_0, hfz11_1⟩ := bC2 BK315; obtain ⟨Ao12, co12, eo12⟩ := Kd.R_slice HO313.out; subst eo12))
 go_loopg [5] k (fun kq v5 w' => ∃ (x5_1 : Int) (x1001_1 : Int) (x1002_1 : Int) (x316000_1 : List ByteArray) (x316001_1 : List (S63)) (u316000 : Value) (u316001 : Value), v5 = .int .i64 x5_1 ∧ Aside0 (spec_l05Disk.l0 kq x5_1 s0_0 x1001_1 x1002_1 x316000_1 x316001_1 = some (r1, r2, r3, r4)) ∧ Aside0 (kq ≤ k) ∧ Aside0 (Kd.R Kd.string 9 w' w.heap.size (fun _ => True) u316000 x316000_1) ∧ Aside0 (Kd.R k63 63 w' w.heap.size (fun _ => True) u316001 x316001_1) ∧ Aside0 (w'.heap[gb304]? = some (.cells #[(.slice none 0 0), (.slice none 0 0)] 27 (0, 0))) ∧ Aside0 (w'.heap[gb315]? = some (.cells #[u316000, u316001] 27 (0, 0))) ∧ Aside0 (IsS80 w0 w' g s0_0 x1001_1 x1002_1) ∧ Aside0 (KeepBut w w' g none) ∧ Aside0 (Below w0.heap.size w0 w'))
 case atStart => exact ⟨(0), (t306), (t307), (t308), (t311), (.slice Ao8 t308.length co8), (.slice Ao12 t311.length co12), (by first | rfl | (simp; done) | (simp [*]; done)), H', ⟨Nat.le_refl _⟩, ⟨by exact Kd.R_mono (rT HO310 BK315 (by decide)) (fun _ hk => trivial)⟩, ⟨by exact Kd.R_mono (rT HO313 BK315 (by decide)) (fun _ hk => trivial)⟩, ⟨by (with_reducible repeat (first | refine blk_drewN ?_ _ | refine blk_drew ?_ | refine blk_alloc ?_ _)); refine blk_far ?_ NB304_315.out _; (with_reducible repeat (first | refine blk_drewN ?_ _ | refine blk_drew ?_ | refine blk_alloc ?_ _)); refine blk_far ?_ NB304_315.out _; (with_reducible repeat (first | refine blk_drewN ?_ _ | refine blk_drew ?_ | refine blk_alloc ?_ _)); exact BK304.out⟩, ⟨bW BK315⟩, ⟨IsS80.T_ HI0 (nC NB0_304 (nC NB0_315 nN))⟩, ⟨kT HK (gC GW304 (gC GW315 gN))⟩, ⟨lT HB (gC GE304 (gC GE315 gN))⟩⟩
 case round =>
  clear H'
  try clear c1
  try clear p2
  try clear c4
  try clear c5
  try clear c6
  try clear p6
  try clear c9
  try clear c10
  try clear hcz11_0
  try clear hcz11_1
  try clear hfz11_0
  try clear hfz11_1
  obtain ⟨x5_1, x1001_1, x1002_1, x316000_1, x316001_1, u316000, u316001, rfl, HA, HK1, HO_316000, HO_316001, BK304, BK315, HI0, HK, HB⟩ := hrel
  cases gk with
  | zero => exact absurd HA.out (by simp [spec_l05Disk.l0])
  | succ k1 =>
   have H := HA.out
   clear HA
   simp only [spec_l05Disk.l0] at H
   replace H := Option.bind_eq_some_iff.mp H
   obtain ⟨⟨t316, t317, t318⟩, A130, H⟩ := H
   replace H : (if x5_1 < t316 then ((spec_l01Below.f s0_0 t317 t318 5).bind fun bt319 => ((spec_FrameText.f k1 (wrap64 (1 + x5_1)) 1 (⟨#[115, 101, 103]⟩ : ByteArray)).bind fun bt322 => (spec_l05Disk.l1 k1 x5_1 bt319.1 (wrap64 (1 + x5_1)) bt322.1 0 s0_0 bt319.2.1 bt319.2.2 x316000_1 x316001_1))) else (some (x316000_1, x316001_1, t317, t318))) = some (r1, r2, r3, r4) := H
   have A13 := Aside0.mk A130
   clear A130
   by_cases c14 : x5_1 < t316
   ·rw [if_pos c14] at H
    have c14b0 : decide (x5_1 < t316) = true := decide_eq_true c14
    clear c14
    replace H := Option.bind_eq_some_iff.mp H
    obtain ⟨⟨t319, t320, t321⟩, A150, H⟩ := H
    replace H : ((spec_FrameText.f k1 (wrap64 (1 + x5_1)) 1 (⟨#[115, 101, 103]⟩ : ByteArray)).bind fun bt322 => (spec_l05Disk.l1 k1 x5_1 t319 (wrap64 (1 + x5_1)) bt322.1 0 s0_0 t320 t321 x316000_1 x316001_1)) = some (r1, r2, r3, r4) := H
    have A15 := Aside0.mk A150
    clear A150
    replace H := Option.bind_eq_some_iff.mp H
    obtain ⟨⟨t322, t323⟩, A160, H⟩ := H
    replace H : (spec_l05Disk.l1 k1 x5_1 t319 (wrap64 (1 + x5_1)) t322 0 s0_0 t320 t321 x316000_1 x316001_1) = some (r1, r2, r3, r4) := H
    have A16 := Aside0.mk A160
    clear A160
    have H' := Aside0.mk H
    clear H
    go_wp2_with (first | ((with_reducible refine gate_callee (f := 47) rfl ?_); refine gl (some 25) Try.func47 #[.pointer (some ⟨g, 0, none⟩), .int .i64 4] ?_; (with_reducible refine (spec_l01Below.calls g s0_0 x1001_1 x1002_1 4 t316 t317 t318 w0 _ ?side1 ?side2 A13.out).mono ?_); (case side1 => exact IsS80.T_ HI0 (nC NB0_304 (nC NB0_315 nN))); (case side2 => exact lT HB (gC GE304 (gC GE315 gN))); rintro e w17 ⟨rfl, hi, hb, hk⟩; refine ⟨_, rfl, ?_⟩; replace HO_316000 := ak (Kd.R_mono (Kd.R_keep (IsS80.apart (show IsS80 w0 _ g s0_0 x1001_1 x1002_1 from IsS80.T_ HI0 (nC NB0_304 (nC NB0_315 nN))) (rG HO_316000) (by decide)) hk (fun _ h => h.2)) (fun _ h => h.1)); replace HO_316001 := ak (Kd.R_mono (Kd.R_keep (IsS80.apart (show IsS80 w0 _ g s0_0 x1001_1 x1002_1 from IsS80.T_ HI0 (nC NB0_304 (nC NB0_315 nN))) (rG HO_316001) (by decide)) hk (fun _ h => h.2)) (fun _ h => h.1)); replace BK304 := ak (KeepBut.blk hk (g' := gb304) (o := .cells #[.slice none 0 0, .slice none 0 0] 27 (0, 0)) (bG BK304) NB304_0.out (by simp)); replace BK315 := ak (KeepBut.blk hk (g' := gb315) (o := .cells #[u316000, u316001] 27 (0, 0)) (bG BK315) NB315_0.out (by simp)); replace HK := ak (KeepBut.trans (kT HK (gC GW304 (gC GW315 gN))) hk (.inl rfl)); replace HB := ak (hb); replace HI0 := ak (hi); (try clear hb); (try clear hk); (try clear hi)) | ((with_reducible refine gate_callee (f := 47) rfl ?_); refine gl (some 30) Try.func47 #[.pointer (some ⟨g, 0, none⟩), .int .i64 5] ?_; (with_reducible refine (spec_l01Below.calls g s0_0 t317 t318 5 t319 t320 t321 w0 _ ?side1 ?side2 A15.out).mono ?_); (case side1 => exact IsS80.T_ HI0 (nC NB0_304 (nC NB0_315 nN))); (case side2 => exact lT HB (gC GE304 (gC GE315 gN))); rintro e w18 ⟨rfl, hi, hb, hk⟩; refine ⟨_, rfl, ?_⟩; replace HO_316000 := ak (Kd.R_mono (Kd.R_keep (IsS80.apart (show IsS80 w0 _ g s0_0 t317 t318 from IsS80.T_ HI0 (nC NB0_304 (nC NB0_315 nN))) (rG HO_316000) (by decide)) hk (fun _ h => h.2)) (fun _ h => h.1)); replace HO_316001 := ak (Kd.R_mono (Kd.R_keep (IsS80.apart (show IsS80 w0 _ g s0_0 t317 t318 from IsS80.T_ HI0 (nC NB0_304 (nC NB0_315 nN))) (rG HO_316001) (by decide)) hk (fun _ h => h.2)) (fun _ h => h.1)); replace BK304 := ak (KeepBut.blk hk (g' := gb304) (o := .cells #[.slice none 0 0, .slice none 0 0] 27 (0, 0)) (bG BK304) NB304_0.out (by simp)); replace BK315 := ak (KeepBut.blk hk (g' := gb315) (o := .cells #[u316000, u316001] 27 (0, 0)) (bG BK315) NB315_0.out (by simp)); replace HK := ak (KeepBut.trans (kT HK (gC GW304 (gC GW315 gN))) hk (.inl rfl)); replace HB := ak (hb); replace HI0 := ak (hi); (try clear hb); (try clear hk); (try clear hi)) | ((with_reducible refine gate_callee (f := 80) rfl ?_); refine gl (some 36) Try.func80 #[.agg #[.int .i64 (wrap64 (1 + x5_1)), .int .i64 1, .string (⟨#[115, 101, 103]⟩ : ByteArray)]] ?_; (with_reducible refine (spec_FrameText.calls k1 (wrap64 (1 + x5_1)) 1 (⟨#[115, 101, 103]⟩ : ByteArray) t322 t323 _ A16.out).mono ?_); rintro e w19 ⟨rfl, hb⟩; refine ⟨_, rfl, ?_⟩; replace HO_316000 := rB HO_316000 hb; replace HO_316001 := rB HO_316001 hb; replace BK304 := bB BK304 hb; replace BK315 := bB BK315 hb; replace HK := ak (KeepBut.trans (kT HK (gC GW304 (gC GW315 gN))) (KeepBut.of_below hb g none) (.inl rfl)); replace HB := ak (below_step (lT HB (gC GE304 (gC GE315 gN))) hb); replace HI0 := ak (IsS80.below (IsS80.T_ HI0 (nC NB0_304 (nC NB0_315 nN))) hb); (try clear hb); (try clear hk); (try clear hi)))
    go_loopg [8, 10] k1 (fun kq v8 v10 w' => ∃ (x8_2 : ByteArray) (x10_2 : Int) (x1001_2 : Int) (x1002_2 : Int), v8 = .string x8_2 ∧ v10 = .int .i64 x10_2 ∧ Aside0 (spec_l05Disk.l1 kq x5_1 t319 (wrap64 (1 + x5_1)) x8_2 x10_2 s0_0 x1001_2 x1002_2 x316000_1 x316001_1 = some (r1, r2, r3, r4)) ∧ Aside0 (kq ≤ k1) ∧ Aside0 (Kd.R Kd.string 9 w' w.heap.size (fun _ => True) u316000 x316000_1) ∧ Aside0 (Kd.R k63 63 w' w.heap.size (fun _ => True) u316001 x316001_1) ∧ Aside0 (w'.heap[gb304]? = some (.cells #[(.slice none 0 0), (.slice none 0 0)] 27 (0, 0))) ∧ Aside0 (w'.heap[gb315]? = some (.cells #[u316000, u316001] 27 (0, 0))) ∧ Aside0 (IsS80 w0 w' g s0_0 x1001_2 x1002_2) ∧ Aside0 (KeepBut w w' g none) ∧ Aside0 (Below w0.heap.size w0 w'))
    case atStart => exact ⟨(t322), (0), (t320), (t321), (by first | rfl | (simp; done) | (simp [*]; done)), (by first | rfl | (simp; done) | (simp [*]; done)), H', ⟨Nat.le_refl _⟩, ⟨by (with_reducible repeat (first | apply Kd.R_alloc | apply Kd.R_drewN | apply Kd.R_drew)); exact HO_316000.out⟩, ⟨by (with_reducible repeat (first | apply Kd.R_alloc | apply Kd.R_drewN | apply Kd.R_drew)); exact HO_316001.out⟩, ⟨bG BK304⟩, ⟨bG BK315⟩, ⟨IsS80.T_ HI0 (nC NB0_304 (nC NB0_315 nN))⟩, ⟨kT HK (gC GW304 (gC GW315 gN))⟩, ⟨lT HB (gC GE304 (gC GE315 gN))⟩⟩
    case round =>
     clear H'
     try clear c1
     try clear p2
     try clear c4
     try clear c5
     try clear c6
     try clear p6
     try clear c8
     try clear c9
     try clear c10
     try clear c14
     try clear c14b0
     try clear hcz11_0
     try clear hcz11_1
     try clear hfz11_0
     try clear hfz11_1
     try clear p2
     try clear p6
     obtain ⟨x8_2, x10_2, x1001_2, x1002_2, rfl, rfl, HA, HK2, HO_316000, HO_316001, BK304, BK315, HI0, HK, HB⟩ := hrel
     cases gk with
     | zero => exact absurd HA.out (by simp [spec_l05Disk.l1])
     | succ k2 =>
      have H := HA.out
      clear HA
      simp only [spec_l05Disk.l1] at H
      replace H := Option.bind_eq_some_iff.mp H
      obtain ⟨⟨t324, t325, t326⟩, A200, H⟩ := H
      replace H : (if x10_2 < t324 then ((spec_l04Frame.f k2 s0_0 t325 t326).bind fun bt327 => ((spec_FrameText.f k2 (wrap64 (1 + x5_1)) bt327.2.1 bt327.2.2.1).bind fun bt333 => (if x8_2.size + bt333.1.size ≤ 9223372036854775807 then (spec_l05Disk.l1 k2 x5_1 t319 (wrap64 (1 + x5_1)) (x8_2 ++ bt333.1) (wrap64 (x10_2 + 1)) s0_0 bt327.2.2.2.1 bt327.2.2.2.2 x316000_1 x316001_1) else (none)))) else ((spec_SegWrite.f k2 x316000_1 x316001_1 t319 0 x8_2).bind fun bt335 => ((spec_FlushDisk.f k2 bt335.1 bt335.2.1).bind fun bt342 => (spec_l05Disk.l0 k2 (wrap64 (x5_1 + 1)) s0_0 t325 t326 bt342.1 bt342.2)))) = some (r1, r2, r3, r4) := H
      have A20 := Aside0.mk A200
      clear A200
      by_cases c21 : x10_2 < t324
      ·rw [if_pos c21] at H
       have c21b0 : decide (x10_2 < t324) = true := decide_eq_true c21
       clear c21
       replace H := Option.bind_eq_some_iff.mp H
       obtain ⟨⟨t327, t328, t329, t330, t331⟩, A220, H⟩ := H
       replace H : ((spec_FrameText.f k2 (wrap64 (1 + x5_1)) t328 t329).bind fun bt333 => (if x8_2.size + bt333.1.size ≤ 9223372036854775807 then (spec_l05Disk.l1 k2 x5_1 t319 (wrap64 (1 + x5_1)) (x8_2 ++ bt333.1) (wrap64 (x10_2 + 1)) s0_0 t330 t331 x316000_1 x316001_1) else (none))) = some (r1, r2, r3, r4) := H
       have A22 := Aside0.mk A220
       clear A220
       replace H := Option.bind_eq_some_iff.mp H
       obtain ⟨⟨t333, t334⟩, A230, H⟩ := H
       replace H : (if x8_2.size + t333.size ≤ 9223372036854775807 then (spec_l05Disk.l1 k2 x5_1 t319 (wrap64 (1 + x5_1)) (x8_2 ++ t333) (wrap64 (x10_2 + 1)) s0_0 t330 t331 x316000_1 x316001_1) else (none)) = some (r1, r2, r3, r4) := H
       have A23 := Aside0.mk A230
       clear A230
       by_cases c24 : x8_2.size + t333.size ≤ 9223372036854775807
       ·rw [if_pos c24] at H
        have c24b0 := eq_true c24
        have c24b1 : decide (x8_2.size + t333.size ≤ 9223372036854775807) = true := decide_eq_true c24
        try have c24b2 : (9223372036854775807 < x8_2.size + t333.size) = False := eq_false (Nat.not_lt.2 c24)
        have H' := Aside0.mk H
        clear H
        go_wp2_with (first | ((with_reducible refine gate_callee (f := 47) rfl ?_); refine gl (some 41) Try.func47 #[.pointer (some ⟨g, 0, none⟩), .int .i64 4] ?_; (with_reducible refine (spec_l01Below.calls g s0_0 x1001_2 x1002_2 4 t324 t325 t326 w0 _ ?side1 ?side2 A20.out).mono ?_); (case side1 => exact IsS80.T_ HI0 (nC NB0_304 (nC NB0_315 nN))); (case side2 => exact lT HB (gC GE304 (gC GE315 gN))); rintro e w25 ⟨rfl, hi, hb, hk⟩; refine ⟨_, rfl, ?_⟩; replace HO_316000 := ak (Kd.R_mono (Kd.R_keep (IsS80.apart (show IsS80 w0 _ g s0_0 x1001_2 x1002_2 from IsS80.T_ HI0 (nC NB0_304 (nC NB0_315 nN))) (rG HO_316000) (by decide)) hk (fun _ h => h.2)) (fun _ h => h.1)); replace HO_316001 := ak (Kd.R_mono (Kd.R_keep (IsS80.apart (show IsS80 w0 _ g s0_0 x1001_2 x1002_2 from IsS80.T_ HI0 (nC NB0_304 (nC NB0_315 nN))) (rG HO_316001) (by decide)) hk (fun _ h => h.2)) (fun _ h => h.1)); replace BK304 := ak (KeepBut.blk hk (g' := gb304) (o := .cells #[.slice none 0 0, .slice none 0 0] 27 (0, 0)) (bG BK304) NB304_0.out (by simp)); replace BK315 := ak (KeepBut.blk hk (g' := gb315) (o := .cells #[u316000, u316001] 27 (0, 0)) (bG BK315) NB315_0.out (by simp)); replace HK := ak (KeepBut.trans (kT HK (gC GW304 (gC GW315 gN))) hk (.inl rfl)); replace HB := ak (hb); replace HI0 := ak (hi); (try clear hb); (try clear hk); (try clear hi)) | ((with_reducible refine gate_callee (f := 81) rfl ?_); refine gl (some 46) Try.func81 #[.pointer (some ⟨g, 0, none⟩)] ?_; (with_reducible refine (spec_l04Frame.calls k2 g s0_0 t325 t326 t327 t328 t329 t330 t331 w0 _ ?side1 ?side2 A22.out).mono ?_); (case side1 => exact IsS80.T_ HI0 (nC NB0_304 (nC NB0_315 nN))); (case side2 => exact lT HB (gC GE304 (gC GE315 gN))); rintro e w26 ⟨rfl, hi, hb, hk⟩; refine ⟨_, rfl, ?_⟩; replace HO_316000 := ak (Kd.R_mono (Kd.R_keep (IsS80.apart (show IsS80 w0 _ g s0_0 t325 t326 from IsS80.T_ HI0 (nC NB0_304 (nC NB0_315 nN))) (rG HO_316000) (by decide)) hk (fun _ h => h.2)) (fun _ h => h.1)); replace HO_316001 := ak (Kd.R_mono (Kd.R_keep (IsS80.apart (show IsS80 w0 _ g s0_0 t325 t326 from IsS80.T_ HI0 (nC NB0_304 (nC NB0_315 nN))) (rG HO_316001) (by decide)) hk (fun _ h => h.2)) (fun _ h => h.1)); replace BK304 := ak (KeepBut.blk hk (g' := gb304) (o := .cells #[.slice none 0 0, .slice none 0 0] 27 (0, 0)) (bG BK304) NB304_0.out (by simp)); replace BK315 := ak (KeepBut.blk hk (g' := gb315) (o := .cells #[u316000, u316001] 27 (0, 0)) (bG BK315) NB315_0.out (by simp)); replace HK := ak (KeepBut.trans (kT HK (gC GW304 (gC GW315 gN))) hk (.inl rfl)); replace HB := ak (hb); replace HI0 := ak (hi); (try clear hb); (try clear hk); (try clear hi)) | ((with_reducible refine gate_dst (N := 11) rfl ?_); refine bx 11 #[.int .i64 0, .int .i64 0, .string (⟨#[]⟩ : ByteArray)] 74 ?_; intro gb332 hg w27 hbox hb; replace HO_316000 := rB HO_316000 hb; replace HO_316001 := rB HO_316001 hb; replace HB := ak (below_step (lT HB (gC GE304 (gC GE315 gN))) hb); replace BK332 := ak (hbox); replace GW332 := ak ((by rw [hg]; exact (keep_size (w := w) (g := g) (row := none) (kT HK (gC GW304 (gC GW315 gN)))) : w.heap.size ≤ gb332)); replace GE332 := ak ((Nat.le_trans HW0.out (by rw [hg]; exact (keep_size (w := w) (g := g) (row := none) (kT HK (gC GW304 (gC GW315 gN)))) : w.heap.size ≤ gb332) : w0.heap.size ≤ gb332)); replace HK := ak (KeepBut.trans (kT HK (gC GW304 (gC GW315 gN))) (KeepBut.of_below hb g none) (.inl rfl)); replace NB304_332 := ak (nl hg (bG BK304)); replace NB332_304 := ak (ng hg (bG BK304)); replace BK304 := bB BK304 hb; replace NB315_332 := ak (nl hg (bG BK315)); replace NB332_315 := ak (ng hg (bG BK315)); replace BK315 := bB BK315 hb; replace NB0_332 := ak ((by rw [hg]; exact Nat.ne_of_lt (IsS80.lt (show IsS80 w0 _ g s0_0 t330 t331 from IsS80.T_ HI0 (nC NB0_304 (nC NB0_315 nN)))) : g ≠ gb332)); replace NB332_0 := ak ((by rw [hg]; exact Nat.ne_of_gt (IsS80.lt (show IsS80 w0 _ g s0_0 t330 t331 from IsS80.T_ HI0 (nC NB0_304 (nC NB0_315 nN)))) : gb332 ≠ g)); replace HI0 := ak (IsS80.below (IsS80.T_ HI0 (nC NB0_304 (nC NB0_315 nN))) hb); clear hb hbox hg; have hnb28 := NB332_304.out; have hnc28 := NB304_332.out; have hnb29 := NB332_315.out; have hnc29 := NB315_332.out; have hnb30 := NB332_0.out; have hnc30 := NB0_332.out; obtain ⟨hcz31_0, hcz31_1, hcz31_2, hfz31_0, hfz31_1, hfz31_2⟩ := bC3 BK332) | ((with_reducible refine gate_callee (f := 80) rfl ?_); refine gl (some 51) Try.func80 #[.agg #[.int .i64 (wrap64 (1 + x5_1)), .int .i64 t328, .string t329]] ?_; (with_reducible refine (spec_FrameText.calls k2 (wrap64 (1 + x5_1)) t328 t329 t333 t334 _ A23.out).mono ?_); rintro e w32 ⟨rfl, hb⟩; refine ⟨_, rfl, ?_⟩; replace HO_316000 := ak (Kd.R_below (rT HO_316000 BK332 (by decide)) hb); replace HO_316001 := ak (Kd.R_below (rT HO_316001 BK332 (by decide)) hb); replace BK304 := ak (blk_below (bT BK304 (nC NB304_332 nN)) hb); replace BK315 := ak (blk_below (bT BK315 (nC NB315_332 nN)) hb); replace BK332 := ak (blk_below (g := gb332) (o := .cells #[.int .i64 (wrap64 (1 + x5_1)), .int .i64 t328, .string t329] 74 (0, 0)) (bW BK332) hb); replace HK := ak (KeepBut.trans (kT HK (gC GW304 (gC GW315 (gC GW332 gN)))) (KeepBut.of_below hb g none) (.inl rfl)); replace HB := ak (below_step (lT HB (gC GE304 (gC GE315 (gC GE332 gN)))) hb); replace HI0 := ak (IsS80.below (show IsS80 w0 ((((w27.setCell ⟨gb332, 0, none⟩ (.int .i64 t327)).setCell ⟨gb332, 1, none⟩ (.int .i64 t328)).setCell ⟨gb332, 2, none⟩ (.string t329)).setCell ⟨gb332, 0, none⟩ (.int .i64 (wrap64 (1 + x5_1)))) g s0_0 t330 t331 from IsS80.T_ HI0 (nC NB0_304 (nC NB0_315 (nC NB0_332 nN)))) hb); (try clear hb); (try clear hk); (try clear hi)))
        go_roundg k2
        case measure => have := HK1.out; have := HK2.out; omega
        case rel => exact ⟨(x8_2 ++ t333), (wrap64 (x10_2 + 1)), (t330), (t331), (by first | rfl | (simp; done) | (simp [*]; done)), (by first | rfl | (simp; done) | (simp [*]; done)), H', ⟨by have := HK1.out; have := HK2.out; omega⟩, ⟨by (with_reducible repeat (first | apply Kd.R_alloc | apply Kd.R_drewN | apply Kd.R_drew)); exact HO_316000.out⟩, ⟨by (with_reducible repeat (first | apply Kd.R_alloc | apply Kd.R_drewN | apply Kd.R_drew)); exact HO_316001.out⟩, ⟨bG BK304⟩, ⟨bG BK315⟩, ⟨IsS80.T_ HI0 (nC NB0_304 (nC NB0_315 (nC NB0_332 nN)))⟩, ⟨kT HK (gC GW304 (gC GW315 (gC GW332 gN)))⟩, ⟨lT HB (gC GE304 (gC GE315 (gC GE332 gN)))⟩⟩
       ·rw [if_neg c24] at H
        exact absurd H (by simp)
      ·rw [if_neg c21] at H
       have c21b0 : decide (x10_2 < t324) = false := decide_eq_false c21
       clear c21
       replace H := Option.bind_eq_some_iff.mp H
       obtain ⟨⟨t335, t338, t341⟩, A330, H⟩ := H
       replace H : ((spec_FlushDisk.f k2 t335 t338).bind fun bt342 => (spec_l05Disk.l0 k2 (wrap64 (x5_1 + 1)) s0_0 t325 t326 bt342.1 bt342.2)) = some (r1, r2, r3, r4) := H
       have A33 := Aside0.mk A330
       clear A330
       replace H := Option.bind_eq_some_iff.mp H
       obtain ⟨⟨t342, t345⟩, A340, H⟩ := H
       replace H : (spec_l05Disk.l0 k2 (wrap64 (x5_1 + 1)) s0_0 t325 t326 t342 t345) = some (r1, r2, r3, r4) := H
       have A34 := Aside0.mk A340
       clear A340
       have H' := Aside0.mk H
       clear H
       go_wp2_with (first | ((with_reducible refine gate_callee (f := 47) rfl ?_); refine gl (some 41) Try.func47 #[.pointer (some ⟨g, 0, none⟩), .int .i64 4] ?_; (with_reducible refine (spec_l01Below.calls g s0_0 x1001_2 x1002_2 4 t324 t325 t326 w0 _ ?side1 ?side2 A20.out).mono ?_); (case side1 => exact IsS80.T_ HI0 (nC NB0_304 (nC NB0_315 nN))); (case side2 => exact lT HB (gC GE304 (gC GE315 gN))); rintro e w35 ⟨rfl, hi, hb, hk⟩; refine ⟨_, rfl, ?_⟩; replace HO_316000 := ak (Kd.R_mono (Kd.R_keep (IsS80.apart (show IsS80 w0 _ g s0_0 x1001_2 x1002_2 from IsS80.T_ HI0 (nC NB0_304 (nC NB0_315 nN))) (rG HO_316000) (by decide)) hk (fun _ h => h.2)) (fun _ h => h.1)); replace HO_316001 := ak (Kd.R_mono (Kd.R_keep (IsS80.apart (show IsS80 w0 _ g s0_0 x1001_2 x1002_2 from IsS80.T_ HI0 (nC NB0_304 (nC NB0_315 nN))) (rG HO_316001) (by decide)) hk (fun _ h => h.2)) (fun _ h => h.1)); replace BK304 := ak (KeepBut.blk hk (g' := gb304) (o := .cells #[.slice none 0 0, .slice none 0 0] 27 (0, 0)) (bG BK304) NB304_0.out (by simp)); replace BK315 := ak (KeepBut.blk hk (g' := gb315) (o := .cells #[u316000, u316001] 27 (0, 0)) (bG BK315) NB315_0.out (by simp)); replace HK := ak (KeepBut.trans (kT HK (gC GW304 (gC GW315 gN))) hk (.inl rfl)); replace HB := ak (hb); replace HI0 := ak (hi); (try clear hb); (try clear hk); (try clear hi); have hnb36 := NB315_304.out; have hnc36 := NB304_315.out; have hnb37 := NB315_0.out; have hnc37 := NB0_315.out; obtain ⟨hcz38_0, hcz38_1, hfz38_0, hfz38_1⟩ := bC2 BK315; obtain ⟨Ao39, co39, eo39⟩ := Kd.R_slice HO_316000.out; subst eo39; obtain ⟨Ao40, co40, eo40⟩ := Kd.R_slice HO_316001.out; subst eo40) | ((with_reducible refine gate_callee (f := 82) rfl ?_); refine gl (some 61) Try.func82 #[.agg #[.slice Ao39 x316000_1.length co39, .slice Ao40 x316001_1.length co40], .int .i64 t319, .int .i64 0, .string x8_2] ?_; (with_reducible refine (spec_SegWrite.calls k2 _ _ x316000_1 _ _ x316001_1 t319 0 x8_2 t335 t338 t341 _ ?side1 ?side2 ?side3 ?side4 A33.out).mono ?_); (case side1 => exact cG (Kd.R_reads' HO_316000.out).2.2); (case side2 => exact (Kd.R_reads' HO_316000.out).2.1); (case side3 => exact cG (Kd.R_reads' HO_316001.out).2.2); (case side4 => exact (Kd.R_reads' HO_316001.out).2.1); rintro e w41 ⟨v336, v339, rfl, ho0, ho1, hb⟩; refine ⟨_, rfl, ?_⟩; replace HO337 := ak (Kd.R_lower (Kd.R_new' ho0 (Kd.R_lt (rG HO_316000))) (keep_size (w := w) (g := g) (row := none) (kT HK (gC GW304 (gC GW315 gN))))); replace HO_316000 := ak (Kd.R_elder' (rG HO_316000) (Kd.R_base ho0) hb); replace HO340 := ak (Kd.R_lower (Kd.R_new' ho1 (Kd.R_lt (rG HO_316001))) (keep_size (w := w) (g := g) (row := none) (kT HK (gC GW304 (gC GW315 gN))))); replace HO_316001 := ak (Kd.R_elder' (rG HO_316001) (Kd.R_base ho1) hb); replace BK304 := bB BK304 hb; replace BK315 := bB BK315 hb; replace HK := ak (KeepBut.trans (kT HK (gC GW304 (gC GW315 gN))) (KeepBut.of_below hb g none) (.inl rfl)); replace HB := ak (below_step (lT HB (gC GE304 (gC GE315 gN))) hb); replace HI0 := ak (IsS80.below (IsS80.T_ HI0 (nC NB0_304 (nC NB0_315 nN))) hb); (try clear hb); (try clear hk); (try clear hi); (try clear ho0); (try clear ho1); obtain ⟨Ao42, co42, eo42⟩ := Kd.R_slice HO337.out; subst eo42; obtain ⟨hcz43_0, hcz43_1, hfz43_0, hfz43_1⟩ := bC2 BK315; obtain ⟨Ao44, co44, eo44⟩ := Kd.R_slice HO340.out; subst eo44) | ((with_reducible refine gate_callee (f := 36) rfl ?_); refine gl (some 65) Try.func36 #[.agg #[.slice Ao42 t335.length co42, .slice Ao44 t338.length co44]] ?_; (with_reducible refine (spec_FlushDisk.calls k2 _ _ t335 _ _ t338 t342 t345 _ ?side1 ?side2 ?side3 ?side4 A34.out).mono ?_); (case side1 => exact (Kd.R_reads' (rT HO337 BK315 (by decide))).2.2); (case side2 => exact (Kd.R_reads' HO337.out).2.1); (case side3 => exact (Kd.R_reads' (rT HO340 BK315 (by decide))).2.2); (case side4 => exact (Kd.R_reads' HO340.out).2.1); rintro e w45 ⟨v343, v346, rfl, ho0, ho1, hb⟩; refine ⟨_, rfl, ?_⟩; replace HO344 := ak (Kd.R_lower (Kd.R_new' (Kd.R_new' ho0 (Kd.R_lt (rT HO_316000 BK315 (by decide)))) (Kd.R_lt (rT HO337 BK315 (by decide)))) (keep_size (w := w) (g := g) (row := none) (kT HK (gC GW304 (gC GW315 gN))))); replace HO_316000 := ak (Kd.R_elder' (rT HO_316000 BK315 (by decide)) (Kd.R_base ho0) hb); replace HO337 := ak (Kd.R_elder' (rT HO337 BK315 (by decide)) (Kd.R_base ho0) hb); replace HO347 := ak (Kd.R_lower (Kd.R_new' (Kd.R_new' ho1 (Kd.R_lt (rT HO_316001 BK315 (by decide)))) (Kd.R_lt (rT HO340 BK315 (by decide)))) (keep_size (w := w) (g := g) (row := none) (kT HK (gC GW304 (gC GW315 gN))))); replace HO_316001 := ak (Kd.R_elder' (rT HO_316001 BK315 (by decide)) (Kd.R_base ho1) hb); replace HO340 := ak (Kd.R_elder' (rT HO340 BK315 (by decide)) (Kd.R_base ho1) hb); replace BK304 := ak (blk_below (bT BK304 (nC NB304_315 nN)) hb); replace BK315 := ak (blk_below (g := gb315) (o := .cells #[.slice Ao42 t335.length co42, .slice Ao44 t338.length co44] 27 (0, 0)) (bW BK315) hb); replace HK := ak (KeepBut.trans (kT HK (gC GW304 (gC GW315 gN))) (KeepBut.of_below hb g none) (.inl rfl)); replace HB := ak (below_step (lT HB (gC GE304 (gC GE315 gN))) hb); replace HI0 := ak (IsS80.below (show IsS80 w0 ((w41.setCell ⟨gb315, 0, none⟩ (.slice Ao42 t335.length co42)).setCell ⟨gb315, 1, none⟩ (.slice Ao44 t338.length co44)) g s0_0 t325 t326 from IsS80.T_ HI0 (nC NB0_304 (nC NB0_315 nN))) hb); (try clear hb); (try clear hk); (try clear hi); (try clear ho0); (try clear ho1); obtain ⟨Ao46, co46, eo46⟩ := Kd.R_slice HO344.out; subst eo46; obtain ⟨hcz47_0, hcz47_1, hfz47_0, hfz47_1⟩ := bC2 BK315; obtain ⟨Ao48, co48, eo48⟩ := Kd.R_slice HO347.out; subst eo48))
       go_roundg k2
       case measure => have := HK1.out; have := HK2.out; omega
       case rel => exact ⟨(wrap64 (x5_1 + 1)), (t325), (t326), (t342), (t345), (.slice Ao46 t342.length co46), (.slice Ao48 t345.length co48), (by first | rfl | (simp; done) | (simp [*]; done)), H', ⟨by have := HK1.out; have := HK2.out; omega⟩, ⟨by exact Kd.R_mono (rT HO344 BK315 (by decide)) (fun _ hk => trivial)⟩, ⟨by exact Kd.R_mono (rT HO347 BK315 (by decide)) (fun _ hk => trivial)⟩, ⟨by (with_reducible repeat (first | refine blk_drewN ?_ _ | refine blk_drew ?_ | refine blk_alloc ?_ _)); refine blk_far ?_ NB304_315.out _; (with_reducible repeat (first | refine blk_drewN ?_ _ | refine blk_drew ?_ | refine blk_alloc ?_ _)); refine blk_far ?_ NB304_315.out _; (with_reducible repeat (first | refine blk_drewN ?_ _ | refine blk_drew ?_ | refine blk_alloc ?_ _)); exact BK304.out⟩, ⟨bW BK315⟩, ⟨IsS80.T_ HI0 (nC NB0_304 (nC NB0_315 nN))⟩, ⟨kT HK (gC GW304 (gC GW315 gN))⟩, ⟨lT HB (gC GE304 (gC GE315 gN))⟩⟩
   ·rw [if_neg c14] at H
    have c14b0 : decide (x5_1 < t316) = false := decide_eq_false c14
    clear c14
    simp only [Option.some.injEq, Prod.mk.injEq] at H
    obtain ⟨rfl, rfl, rfl, rfl⟩ := H
    go_wp2_with (first | ((with_reducible refine gate_callee (f := 47) rfl ?_); refine gl (some 25) Try.func47 #[.pointer (some ⟨g, 0, none⟩), .int .i64 4] ?_; (with_reducible refine (spec_l01Below.calls g s0_0 x1001_1 x1002_1 4 t316 t317 t318 w0 _ ?side1 ?side2 A13.out).mono ?_); (case side1 => exact IsS80.T_ HI0 (nC NB0_304 (nC NB0_315 nN))); (case side2 => exact lT HB (gC GE304 (gC GE315 gN))); rintro e w49 ⟨rfl, hi, hb, hk⟩; refine ⟨_, rfl, ?_⟩; replace HO_316000 := ak (Kd.R_mono (Kd.R_keep (IsS80.apart (show IsS80 w0 _ g s0_0 x1001_1 x1002_1 from IsS80.T_ HI0 (nC NB0_304 (nC NB0_315 nN))) (rG HO_316000) (by decide)) hk (fun _ h => h.2)) (fun _ h => h.1)); replace HO_316001 := ak (Kd.R_mono (Kd.R_keep (IsS80.apart (show IsS80 w0 _ g s0_0 x1001_1 x1002_1 from IsS80.T_ HI0 (nC NB0_304 (nC NB0_315 nN))) (rG HO_316001) (by decide)) hk (fun _ h => h.2)) (fun _ h => h.1)); replace BK304 := ak (KeepBut.blk hk (g' := gb304) (o := .cells #[.slice none 0 0, .slice none 0 0] 27 (0, 0)) (bG BK304) NB304_0.out (by simp)); replace BK315 := ak (KeepBut.blk hk (g' := gb315) (o := .cells #[u316000, u316001] 27 (0, 0)) (bG BK315) NB315_0.out (by simp)); replace HK := ak (KeepBut.trans (kT HK (gC GW304 (gC GW315 gN))) hk (.inl rfl)); replace HB := ak (hb); replace HI0 := ak (hi); (try clear hb); (try clear hk); (try clear hi); have hnb50 := NB315_304.out; have hnc50 := NB304_315.out; have hnb51 := NB315_0.out; have hnc51 := NB0_315.out; obtain ⟨hcz52_0, hcz52_1, hfz52_0, hfz52_1⟩ := bC2 BK315; obtain ⟨Ao53, co53, eo53⟩ := Kd.R_slice HO_316000.out; subst eo53; have hnb54 := NB304_0.out; have hnc54 := NB0_304.out; obtain ⟨hcz55_0, hcz55_1, hfz55_0, hfz55_1⟩ := bC2 BK304; obtain ⟨Ao56, co56, eo56⟩ := Kd.R_slice HO_316001.out; subst eo56))
    refine bodyPost_ret (results_cell_row rfl _ _ gb304 27 #[.slice Ao53 x316000_1.length co53, .slice Ao56 x316001_1.length co56] (0, 0) _ rfl (bW BK304) Try.underlying27 rfl (by kernel_rfl)) rfl ?_
    exact ⟨_, _, ew, by exact Kd.R_mono (rT HO_316000 BK304 (by decide)) (fun _ hk => trivial), by exact Kd.R_mono (rT HO_316001 BK304 (by decide)) (fun _ hk => trivial), IsS80.T_ HI0 (nC NB0_304 (nC NB0_315 nN)), lT HB (gC GE304 (gC GE315 gN)), kT HK (gC GW304 (gC GW315 gN))⟩

/-! ### spec_DrawSegDisk: function 22 -/
def spec_DrawSegDisk.f (k : Nat) (l0 : List Int) : Option (List ByteArray × (List (S63))) := (spec_l01New.f k l0).bind fun bt349 => ((spec_l05Disk.f k bt349.1 bt349.2.1 bt349.2.2).bind fun bt353 => (some (bt353.1, bt353.2.1)))
theorem spec_DrawSegDisk.mono : ∀ a0 k, LeO (spec_DrawSegDisk.f k a0) (spec_DrawSegDisk.f (k + 1) a0) := by
 intro a0 k
 unfold spec_DrawSegDisk.f
 repeat' first
   | (with_reducible exact spec_l01New.mono _ _)
   | (with_reducible exact spec_l05Disk.mono _ _ _ _)
   | (with_reducible exact LeO.refl _)
   | (with_reducible exact LeO.none _)
   | (with_reducible refine LeO.ite ?_ ?_)
   | (with_reducible refine LeO.bind ?_ (fun _ => ?_))
   | exact spec_l01New.mono _ _
   | exact spec_l05Disk.mono _ _ _ _
   | exact LeO.none _
   | refine LeO.ite ?_ ?_
   | refine LeO.bind ?_ (fun _ => ?_)
set_option maxHeartbeats 8000000 in
set_option maxRecDepth 100000 in
theorem spec_DrawSegDisk.calls (k : Nat) (A0 : Option Addr) (c0 : Nat) (l0 : List Int) (r1 : List ByteArray) (r2 : List (S63)) (w : World) (hr0 : Kd.C (Kd.int .u8) w A0 l0.length l0) (hc0 : l0.length ≤ c0) (h : spec_DrawSegDisk.f k l0 = some (r1, r2)) :
  Calls Try.prog 22 #[.slice A0 l0.length c0] w fun e w' => ∃ v0_ v1_ : Value, e = .returned (.agg #[v0_, v1_]) ∧ Kd.R Kd.string 9 w' w.heap.size (fun _ => True) v0_ r1 ∧ Kd.R k63 63 w' w.heap.size (fun _ => True) v1_ r2 ∧ Below w.heap.size w w' := by
 have hu27 := Try.underlying27
 have HR0 := Aside0.mk hr0
 have HC0 := Aside0.mk hc0
 clear hr0 hc0
 have HB := ak (Below.refl w.heap.size w)
 have H : ((spec_l01New.f k l0).bind fun bt349 => ((spec_l05Disk.f k bt349.1 bt349.2.1 bt349.2.2).bind fun bt353 => (some (bt353.1, bt353.2.1)))) = some (r1, r2) := h
 clear h
 replace H := Option.bind_eq_some_iff.mp H
 obtain ⟨⟨t349, t350, t351⟩, A20, H⟩ := H
 replace H : ((spec_l05Disk.f k t349 t350 t351).bind fun bt353 => (some (bt353.1, bt353.2.1))) = some (r1, r2) := H
 have A2 := Aside0.mk A20
 clear A20
 replace H := Option.bind_eq_some_iff.mp H
 obtain ⟨⟨t353, t356, t359, t360⟩, A30, H⟩ := H
 replace H : (some (t353, t356)) = some (r1, r2) := H
 have A3 := Aside0.mk A30
 clear A30
 simp only [Option.some.injEq, Prod.mk.injEq] at H
 obtain ⟨rfl, rfl⟩ := H
 go_enter Try.func22, Try.ntmps22
 go_wp2_with (first | ((with_reducible refine gate_dst (N := 2) rfl ?_); refine bx 2 #[.slice none 0 0, .slice none 0 0] 27 ?_; intro gb348 hg w4 hbox hb; replace BK348 := ak (hbox); replace GW348 := ak (bz hg (lG HB)); replace GE348 := ak (bz hg (lG HB)); replace HB := lB HB hb; clear hb hbox hg) | ((with_reducible refine gate_callee (f := 45) rfl ?_); refine gl (some 4) Try.func45 #[.slice A0 l0.length c0] ?_; (with_reducible refine (spec_l01New.calls k _ _ l0 t349 t350 t351 w _ ?side1 ?side2 ?side3 A2.out).mono ?_); (case side1 => exact lT HB (gC GE348 gN)); (case side2 => exact HR0.out); (case side3 => exact HC0.out); rintro e w5 ⟨g352, rfl, hi, hb, hb2⟩; refine ⟨_, rfl, ?_⟩; replace HB := ak (hb); replace HI352 := ak (hi); replace NB352_348 := ak (IsS80.ne_blk hi (blk_below (bG BK348) hb2) (by decide)); replace NB348_352 := ak (Ne.symm (IsS80.ne_blk hi (blk_below (bG BK348) hb2) (by decide))); replace BK348 := ak (blk_below (bG BK348) hb2); (try clear hb); (try clear hb2); (try clear hk); (try clear hi)) | ((with_reducible refine gate_callee (f := 59) rfl ?_); refine gl (some 5) Try.func59 #[.pointer (some ⟨g352, 0, none⟩)] ?_; (with_reducible refine (spec_l05Disk.calls k g352 t349 t350 t351 t353 t356 t359 t360 w _ ?side1 ?side2 A3.out).mono ?_); (case side1 => exact IsS80.T_ HI352 (nC NB352_348 nN)); (case side2 => exact lT HB (gC GE348 gN)); rintro e w6 ⟨v354, v357, rfl, ho0, ho1, hi, hb, hk⟩; refine ⟨_, rfl, ?_⟩; replace BK348 := ak (KeepBut.blk hk (g' := gb348) (o := .cells #[.slice none 0 0, .slice none 0 0] 27 (0, 0)) (bG BK348) NB348_352.out (by simp)); replace HO355 := ak (Kd.R_lower ho0 (below_size (lT HB (gC GE348 gN)))); replace HO358 := ak (Kd.R_lower ho1 (below_size (lT HB (gC GE348 gN)))); replace HB := ak (hb); replace HI352 := ak (hi); (try clear hb); (try clear hb2); (try clear hk); (try clear hi); (try clear ho0); (try clear ho1); obtain ⟨Ao7, co7, eo7⟩ := Kd.R_slice HO355.out; subst eo7; have hnb8 := NB348_352.out; have hnc8 := NB352_348.out; obtain ⟨hcz9_0, hcz9_1, hfz9_0, hfz9_1⟩ := bC2 BK348; obtain ⟨Ao10, co10, eo10⟩ := Kd.R_slice HO358.out; subst eo10))
 refine bodyPost_ret (results_cell_row rfl _ _ gb348 27 #[.slice Ao7 t353.length co7, .slice Ao10 t356.length co10] (0, 0) _ rfl (bW BK348) Try.underlying27 rfl (by kernel_rfl)) rfl ?_
 exact ⟨_, _, ew, by exact Kd.R_mono (rT HO355 BK348 (by decide)) (fun _ hk => trivial), by exact Kd.R_mono (rT HO358 BK348 (by decide)) (fun _ hk => trivial), lT HB (gC GE348 gN)⟩

/-! ### impl_in: function 50 -/
def impl_in.f (a0 : Int) (a1 : Int) (a2 : Int) : Option (Bool) := if a0 ≥ a1 then (some (decide (a0 ≤ a2))) else (some false)
set_option maxHeartbeats 8000000 in
set_option maxRecDepth 100000 in
theorem impl_in.calls (a0 : Int) (a1 : Int) (a2 : Int) (r : Bool) (w : World) (h : impl_in.f a0 a1 a2 = some r) :
  Calls Try.prog 50 #[.int .i64 a0, .int .i64 a1, .int .i64 a2] w fun e w' => e = .returned (.bool r) ∧ Drawn0 w w' := by
 have H : (if a0 ≥ a1 then (some (decide (a0 ≤ a2))) else (some false)) = some r := h
 clear h
 by_cases c4 : a0 ≥ a1
 ·rw [if_pos c4] at H
  have c4b0 : decide (a1 ≤ a0) = true := decide_eq_true c4
  clear c4
  obtain rfl := Option.some.inj H
  go_enter Try.func50, Try.ntmps50
  go_wp2
  go_ret
  exact ⟨by first | rfl | (simp; done) | (simp [*]; done), by repeat (first | exact Drawn0.refl _ | apply Drawn0.step)⟩
 ·rw [if_neg c4] at H
  have c4b0 : decide (a1 ≤ a0) = false := decide_eq_false c4
  clear c4
  obtain rfl := Option.some.inj H
  go_enter Try.func50, Try.ntmps50
  go_wp2
  go_ret
  exact ⟨by first | rfl | (simp; done) | (simp [*]; done), by repeat (first | exact Drawn0.refl _ | apply Drawn0.step)⟩

/-! ### impl_SegsOf: function 23 -/
def impl_SegsOf.f (l0_0 : List ByteArray) (l0_1 : List (S63)) : Option (Int) := (impl_in.f (wrap64 (Int.tdiv (wrap64 ((l0_0.length : Int) - 8)) 8)) 5 11).bind fun t362 => (if t362 = true then (some (wrap64 (Int.tdiv (wrap64 ((l0_0.length : Int) - 8)) 8))) else (some 0))
set_option maxHeartbeats 8000000 in
set_option maxRecDepth 100000 in
theorem impl_SegsOf.calls (A0_0 : Option Addr) (c0_0 : Nat) (l0_0 : List ByteArray) (A0_1 : Option Addr) (c0_1 : Nat) (l0_1 : List (S63)) (r : Int) (w : World) (hr0_0 : Kd.C Kd.string w A0_0 l0_0.length l0_0) (hc0_0 : l0_0.length ≤ c0_0) (hr0_1 : Kd.C k63 w A0_1 l0_1.length l0_1) (hc0_1 : l0_1.length ≤ c0_1) (h : impl_SegsOf.f l0_0 l0_1 = some r) :
  Calls Try.prog 23 #[.agg #[.slice A0_0 l0_0.length c0_0, .slice A0_1 l0_1.length c0_1]] w fun e w' => e = .returned (.int .i64 r) ∧ Below w.heap.size w w' := by
 have hu27 := Try.underlying27
 have HR0_0 := Aside0.mk hr0_0
 have HC0_0 := Aside0.mk hc0_0
 clear hr0_0 hc0_0
 have HR0_1 := Aside0.mk hr0_1
 have HC0_1 := Aside0.mk hc0_1
 clear hr0_1 hc0_1
 have HB := ak (Below.refl w.heap.size w)
 have H : ((impl_in.f (wrap64 (Int.tdiv (wrap64 ((l0_0.length : Int) - 8)) 8)) 5 11).bind fun t362 => (if t362 = true then (some (wrap64 (Int.tdiv (wrap64 ((l0_0.length : Int) - 8)) 8))) else (some 0))) = some r := h
 clear h
 replace H := Option.bind_eq_some_iff.mp H
 obtain ⟨t362, A20, H⟩ := H
 replace H : (if t362 = true then (some (wrap64 (Int.tdiv (wrap64 ((l0_0.length : Int) - 8)) 8))) else (some 0)) = some r := H
 have A2 := Aside0.mk A20
 clear A20
 by_cases c3 : t362 = true
 ·subst c3
  have H1 : (some (wrap64 (Int.tdiv (wrap64 ((l0_0.length : Int) - 8)) 8))) = some r := by rw [if_pos rfl] at H; exact H
  clear H
  have H := H1
  clear H1
  obtain rfl := Option.some.inj H
  go_enter Try.func23, Try.ntmps23
  go_wp2_with (first | ((with_reducible refine gate_dst (N := 1) rfl ?_); refine bx 1 #[.slice A0_0 l0_0.length c0_0, .slice A0_1 l0_1.length c0_1] 27 ?_; intro gb361 hg w4 hbox hb; replace BK361 := ak (hbox); replace GW361 := ak (bz hg (lG HB)); replace GE361 := ak (bz hg (lG HB)); replace HB := lB HB hb; clear hb hbox hg; obtain ⟨hcz5_0, hcz5_1, hfz5_0, hfz5_1⟩ := bC2 BK361) | ((with_reducible refine gate_callee (f := 50) rfl ?_); refine gl (some 10) Try.func50 #[.int .i64 (wrap64 (Int.tdiv (wrap64 ((l0_0.length : Int) - 8)) 8)), .int .i64 5, .int .i64 11] ?_; (with_reducible refine (impl_in.calls (wrap64 (Int.tdiv (wrap64 ((l0_0.length : Int) - 8)) 8)) 5 11 true _ A2.out).mono ?_); rintro e w' ⟨rfl, ⟨nd, rfl⟩⟩; refine ⟨_, rfl, ?_⟩))
  go_ret
  exact ⟨ew, by exact lT HB (gC GE361 gN)⟩
 ·replace c3 := Bool.eq_false_iff.mpr c3
  subst c3
  have H1 : (some 0) = some r := by rw [if_neg (show ¬ (false = true) by decide)] at H; exact H
  clear H
  have H := H1
  clear H1
  obtain rfl := Option.some.inj H
  go_enter Try.func23, Try.ntmps23
  go_wp2_with (first | ((with_reducible refine gate_dst (N := 1) rfl ?_); refine bx 1 #[.slice A0_0 l0_0.length c0_0, .slice A0_1 l0_1.length c0_1] 27 ?_; intro gb361 hg w6 hbox hb; replace BK361 := ak (hbox); replace GW361 := ak (bz hg (lG HB)); replace GE361 := ak (bz hg (lG HB)); replace HB := lB HB hb; clear hb hbox hg; obtain ⟨hcz7_0, hcz7_1, hfz7_0, hfz7_1⟩ := bC2 BK361) | ((with_reducible refine gate_callee (f := 50) rfl ?_); refine gl (some 10) Try.func50 #[.int .i64 (wrap64 (Int.tdiv (wrap64 ((l0_0.length : Int) - 8)) 8)), .int .i64 5, .int .i64 11] ?_; (with_reducible refine (impl_in.calls (wrap64 (Int.tdiv (wrap64 ((l0_0.length : Int) - 8)) 8)) 5 11 false _ A2.out).mono ?_); rintro e w' ⟨rfl, ⟨nd, rfl⟩⟩; refine ⟨_, rfl, ?_⟩))
  go_ret
  exact ⟨ew, by exact lT HB (gC GE361 gN)⟩

/-! ### impl_SegFirst: function 28 -/
def impl_SegFirst.f (a0 : Int) : Option (Int) := (impl_in.f a0 0 10).bind fun t363 => (if t363 = true then (some (wrap64 (8 + (wrap64 (a0 * 8))))) else (some 0))
set_option maxHeartbeats 8000000 in
set_option maxRecDepth 100000 in
theorem impl_SegFirst.calls (a0 : Int) (r : Int) (w : World) (h : impl_SegFirst.f a0 = some r) :
  Calls Try.prog 28 #[.int .i64 a0] w fun e w' => e = .returned (.int .i64 r) ∧ Drawn0 w w' := by
 have H : ((impl_in.f a0 0 10).bind fun t363 => (if t363 = true then (some (wrap64 (8 + (wrap64 (a0 * 8))))) else (some 0))) = some r := h
 clear h
 replace H := Option.bind_eq_some_iff.mp H
 obtain ⟨t363, A20, H⟩ := H
 replace H : (if t363 = true then (some (wrap64 (8 + (wrap64 (a0 * 8))))) else (some 0)) = some r := H
 have A2 := Aside0.mk A20
 clear A20
 by_cases c3 : t363 = true
 ·subst c3
  have H1 : (some (wrap64 (8 + (wrap64 (a0 * 8))))) = some r := by rw [if_pos rfl] at H; exact H
  clear H
  have H := H1
  clear H1
  obtain rfl := Option.some.inj H
  go_enter Try.func28, Try.ntmps28
  go_wp2_with (first | ((with_reducible refine gate_callee (f := 50) rfl ?_); refine gl (some 4) Try.func50 #[.int .i64 a0, .int .i64 0, .int .i64 10] ?_; (with_reducible refine (impl_in.calls a0 0 10 true _ A2.out).mono ?_); rintro e w' ⟨rfl, ⟨nd, rfl⟩⟩; refine ⟨_, rfl, ?_⟩))
  go_ret
  exact ⟨by first | rfl | (simp; done) | (simp [*]; done), by repeat (first | exact Drawn0.refl _ | apply Drawn0.step)⟩
 ·replace c3 := Bool.eq_false_iff.mpr c3
  subst c3
  have H1 : (some 0) = some r := by rw [if_neg (show ¬ (false = true) by decide)] at H; exact H
  clear H
  have H := H1
  clear H1
  obtain rfl := Option.some.inj H
  go_enter Try.func28, Try.ntmps28
  go_wp2_with (first | ((with_reducible refine gate_callee (f := 50) rfl ?_); refine gl (some 4) Try.func50 #[.int .i64 a0, .int .i64 0, .int .i64 10] ?_; (with_reducible refine (impl_in.calls a0 0 10 false _ A2.out).mono ?_); rintro e w' ⟨rfl, ⟨nd, rfl⟩⟩; refine ⟨_, rfl, ?_⟩))
  go_ret
  exact ⟨by first | rfl | (simp; done) | (simp [*]; done), by repeat (first | exact Drawn0.refl _ | apply Drawn0.step)⟩

/-! ### slices_Clone_string_string: function 74 -/
def slices_Clone_string_string.f (l0 : List ByteArray) : Option (List ByteArray) := (some (([] : List ByteArray) : List ByteArray)).bind fun y364 => (if y364.length + l0.length < 8796093022208 then (some (y364 ++ l0)) else (none))
set_option maxHeartbeats 8000000 in
set_option maxRecDepth 100000 in
theorem slices_Clone_string_string.calls (A0 : Option Addr) (c0 : Nat) (l0 : List ByteArray) (r : List ByteArray) (w : World) (hr0 : Kd.C Kd.string w A0 l0.length l0) (hc0 : l0.length ≤ c0) (h : slices_Clone_string_string.f l0 = some r) :
  Calls Try.prog 74 #[.slice A0 l0.length c0] w fun e w' => ∃ v0_ : Value, e = .returned (v0_) ∧ Kd.R Kd.string 9 w' w.heap.size (fun _ => True) v0_ r ∧ Below w.heap.size w w' := by
 cases A0 with
 | none =>
  have hl_ : l0 = [] := by
   cases l0 with
   | nil => rfl
   | cons x_ t_ => (obtain ⟨ad_, h0_, _⟩ := hr0.2.2 (by simp); cases h0_)
  subst hl_
  have hr_ : [] = r := by simpa [slices_Clone_string_string.f] using h
  subst hr_
  have hnil_ := fun W_ : World => Lib.run_eql_slice_nil (P := Try.prog) W_ 24 9 none 0 c0 0 0 Try.underlying24
  go_enter Try.func74, Try.ntmps74
  go_wp2
  go_ret
  exact ⟨.slice none 0 0, rfl, Kd.R_nil _ _ _ _ _, Below.refl _ _⟩
 | some a0_ =>
 have hnil_ := fun W_ : World => Lib.run_eql_slice_nil (P := Try.prog) W_ 24 9 (some a0_) l0.length c0 0 0 Try.underlying24
 have HR0 := Aside0.mk hr0
 have HC0 := Aside0.mk hc0
 clear hr0 hc0
 have HB := ak (Below.refl w.heap.size w)
 have H : ((some (([] : List ByteArray) : List ByteArray)).bind fun y364 => (if y364.length + l0.length < 8796093022208 then (some (y364 ++ l0)) else (none))) = some r := h
 clear h
 obtain ⟨y364, hy364⟩ : ∃ y_ : List ByteArray, y_ = (([] : List ByteArray)) := ⟨_, rfl⟩
 replace H : (if y364.length + l0.length < 8796093022208 then (some (y364 ++ l0)) else (none)) = some r := by first | (rw [hy364]; with_reducible exact H) | (have H2_ := (Option.bind_some _ _).symm.trans H; rw [hy364]; with_reducible exact H2_) | (have H2_ := (Option.bind_some _ _).symm.trans H; with_reducible exact H2_) | with_reducible exact H | (rw [hy364]; exact H) | exact H
 have Ny364 := Aside0.mk hy364
 clear hy364
 by_cases c2 : y364.length + l0.length < 8796093022208
 ·rw [if_pos c2] at H
  have LMc2 := Aside0.mk c2
  clear c2
  obtain ⟨y367, hy367⟩ : ∃ y_ : List ByteArray, y_ = (y364 ++ l0) := ⟨_, rfl⟩
  replace H : (some y367) = some r := by first | (rw [hy367]; with_reducible exact H) | (have H2_ := (Option.bind_some _ _).symm.trans H; rw [hy367]; with_reducible exact H2_) | (have H2_ := (Option.bind_some _ _).symm.trans H; with_reducible exact H2_) | with_reducible exact H | (rw [hy367]; exact H) | exact H
  have Ny367 := Aside0.mk hy367
  clear hy367
  obtain rfl := Option.some.inj H
  go_enter Try.func74, Try.ntmps74
  go_wp2_with (first | ((with_reducible refine gate_dst (N := 5) rfl ?_); refine Kd.R_lit Kd.string _ 9 ?hg (N := 5) ?hd (xs := ([] : List ByteArray)) (inner := []) (ok := fun _ => True) (okp := fun _ => True) ?hr ?hp (fun _ hk => hk) trivial (Below.refl _ _) (Nat.le_refl _) (by simp) ?_; (case hd => rfl); (case hg => rfl); (case hr => first | (go_simp; done) | (go_simp; rfl)); (case hp => exact (Reps.none _ _)); intro v365 w3 ho4 hb hg_ hnew_; clear hg_ hnew_; (first | rw [← Ny364.out] at ho4 | (simp only [Int.reduceToNat] at ho4; rw [← Ny364.out] at ho4)); replace HO366 := ak (Kd.R_lower ho4 (below_size (lG HB))); replace HB := lB HB hb; clear hb ho4) | ((with_reducible refine gate_builtin (b := .append) (xs := #[.tmp 5, .tmp 6]) rfl ?_); at_builtin; refine Kd.R_append_rows Kd.string (w0 := w) w.heap.size rfl (.tmp 5) (.tmp 6) 24 9 (.string ⟨#[]⟩) 16 rfl Try.underlying24 info9 rfl (by decide) (by omega) v365 y364 l0 _ _ _ (fun _ => True) (fun _ => False) rfl rfl ?aO ?aR (fun _ _ h => h) (fun _ h => h.elim) ?aF ?aB ?aS ?aL ?_; (case aR => exact cG (Kd.C_below HR0.out HB.out)); (case aB => exact (lG HB)); (case aF => exact (fun _ _ => trivial)); (case aO => exact (rG HO366)); (case aS => exact (below_size (lG HB))); (case aL => have := LMc2.out; omega); intro v368 w5 ho hb hg hat; rw [← Ny367.out] at ho; have n0_ := ak (hb); have n1_ := ak (ho); clear HB; clear HO366; have HB := n0_; have HO369 := n1_; clear n0_ n1_; clear ho hb hg hat))
  go_ret
  exact ⟨_, ew, by (with_reducible repeat (first | apply Kd.R_alloc | apply Kd.R_drewN | apply Kd.R_drew)); exact HO369.out, by exact lG HB⟩
 ·rw [if_neg c2] at H
  exact absurd H (by simp)

/-! ### impl_Write_75: function 75 -/
def impl_Write_75.f (l0 : List (S63)) : Option ((List (S63))) := (some (([] : List (S63)) : List (S63))).bind fun y370 => (if y370.length + l0.length < 5864062014805 then (some (y370 ++ l0)) else (none))
set_option maxHeartbeats 8000000 in
set_option maxRecDepth 100000 in
theorem impl_Write_75.calls (A0 : Option Addr) (c0 : Nat) (l0 : List (S63)) (r : List (S63)) (w : World) (hr0 : Kd.C k63 w A0 l0.length l0) (hc0 : l0.length ≤ c0) (h : impl_Write_75.f l0 = some r) :
  Calls Try.prog 75 #[.slice A0 l0.length c0] w fun e w' => ∃ v0_ : Value, e = .returned (v0_) ∧ Kd.R k63 63 w' w.heap.size (fun _ => True) v0_ r ∧ Below w.heap.size w w' := by
 cases A0 with
 | none =>
  have hl_ : l0 = [] := by
   cases l0 with
   | nil => rfl
   | cons x_ t_ => (obtain ⟨ad_, h0_, _⟩ := hr0.2.2 (by simp); cases h0_)
  subst hl_
  have hr_ : [] = r := by simpa [impl_Write_75.f] using h
  subst hr_
  have hnil_ := fun W_ : World => Lib.run_eql_slice_nil (P := Try.prog) W_ 25 63 none 0 c0 0 0 Try.underlying25
  go_enter Try.func75, Try.ntmps75
  go_wp2
  go_ret
  exact ⟨.slice none 0 0, rfl, Kd.R_nil _ _ _ _ _, Below.refl _ _⟩
 | some a0_ =>
 have hnil_ := fun W_ : World => Lib.run_eql_slice_nil (P := Try.prog) W_ 25 63 (some a0_) l0.length c0 0 0 Try.underlying25
 have HR0 := Aside0.mk hr0
 have HC0 := Aside0.mk hc0
 clear hr0 hc0
 have HB := ak (Below.refl w.heap.size w)
 have H : ((some (([] : List (S63)) : List (S63))).bind fun y370 => (if y370.length + l0.length < 5864062014805 then (some (y370 ++ l0)) else (none))) = some r := h
 clear h
 obtain ⟨y370, hy370⟩ : ∃ y_ : List (S63), y_ = (([] : List (S63))) := ⟨_, rfl⟩
 replace H : (if y370.length + l0.length < 5864062014805 then (some (y370 ++ l0)) else (none)) = some r := by first | (rw [hy370]; with_reducible exact H) | (have H2_ := (Option.bind_some _ _).symm.trans H; rw [hy370]; with_reducible exact H2_) | (have H2_ := (Option.bind_some _ _).symm.trans H; with_reducible exact H2_) | with_reducible exact H | (rw [hy370]; exact H) | exact H
 have Ny370 := Aside0.mk hy370
 clear hy370
 by_cases c2 : y370.length + l0.length < 5864062014805
 ·rw [if_pos c2] at H
  have LMc2 := Aside0.mk c2
  clear c2
  obtain ⟨y373, hy373⟩ : ∃ y_ : List (S63), y_ = (y370 ++ l0) := ⟨_, rfl⟩
  replace H : (some y373) = some r := by first | (rw [hy373]; with_reducible exact H) | (have H2_ := (Option.bind_some _ _).symm.trans H; rw [hy373]; with_reducible exact H2_) | (have H2_ := (Option.bind_some _ _).symm.trans H; with_reducible exact H2_) | with_reducible exact H | (rw [hy373]; exact H) | exact H
  have Ny373 := Aside0.mk hy373
  clear hy373
  obtain rfl := Option.some.inj H
  go_enter Try.func75, Try.ntmps75
  go_wp2_with (first | ((with_reducible refine gate_dst (N := 5) rfl ?_); refine Kd.R_lit k63 _ 63 ?hg (N := 5) ?hd (xs := ([] : List (S63))) (inner := []) (ok := fun _ => True) (okp := fun _ => True) ?hr ?hp (fun _ hk => hk) trivial (Below.refl _ _) (Nat.le_refl _) (by simp) ?_; (case hd => rfl); (case hg => rfl); (case hr => first | (go_simp; done) | (go_simp; rfl)); (case hp => exact (Reps.none _ _)); intro v371 w3 ho4 hb hg_ hnew_; clear hg_ hnew_; (first | rw [← Ny370.out] at ho4 | (simp only [Int.reduceToNat] at ho4; rw [← Ny370.out] at ho4)); replace HO372 := ak (Kd.R_lower ho4 (below_size (lG HB))); replace HB := lB HB hb; clear hb ho4) | ((with_reducible refine gate_builtin (b := .append) (xs := #[.tmp 5, .tmp 6]) rfl ?_); at_builtin; refine Kd.R_append_rows k63 (w0 := w) w.heap.size rfl (.tmp 5) (.tmp 6) 25 63 (.agg #[(.int .i64 0), (.string ⟨#[]⟩)]) 24 rfl Try.underlying25 info63 rfl (by decide) (by omega) v371 y370 l0 _ _ _ (fun _ => True) (fun _ => False) rfl rfl ?aO ?aR (fun _ _ h => h) (fun _ h => h.elim) ?aF ?aB ?aS ?aL ?_; (case aR => exact cG (Kd.C_below HR0.out HB.out)); (case aB => exact (lG HB)); (case aF => exact (fun _ _ => trivial)); (case aO => exact (rG HO372)); (case aS => exact (below_size (lG HB))); (case aL => have := LMc2.out; omega); intro v374 w5 ho hb hg hat; rw [← Ny373.out] at ho; have n0_ := ak (hb); have n1_ := ak (ho); clear HB; clear HO372; have HB := n0_; have HO375 := n1_; clear n0_ n1_; clear ho hb hg hat))
  go_ret
  exact ⟨_, ew, by (with_reducible repeat (first | apply Kd.R_alloc | apply Kd.R_drewN | apply Kd.R_drew)); exact HO375.out, by exact lG HB⟩
 ·rw [if_neg c2] at H
  exact absurd H (by simp)

end Go.Proofs.Ytjpngldnkgofaaa.PFnSegments
