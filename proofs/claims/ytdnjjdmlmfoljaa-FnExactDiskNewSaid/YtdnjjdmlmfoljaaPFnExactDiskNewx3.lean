-- Written for this claim by a program of mine (a turned copy of the kit's print): functions as plain Lean, and their contracts. Lean checks it.
import Derived.Test.YtdnjjdmlmfoljaaPFnExactDiskNewx0
import Derived.Test.YtdnjjdmlmfoljaaPFnExactDiskNewx2
import Derived.Test.YtdnjjdmlmfoljaaVFnExactDiskNew1
namespace Go.Proofs.Ytdnjjdmlmfoljaa.PFnExactDiskNew
open Go.RowKit Go.Proofs.YtdnjjdmlmfoljaaW.PrintWords Go.Proofs.YtdnjjdmlmfoljaaW.PrintLast Go.Proofs.YtdnjjdmlmfoljaaW.PrintMore
attribute [local go_sem] max2_int min2_int max_two min_two max_three min_three max_four min_four   -- for this text's walks alone
set_option linter.unusedVariables false
set_option linter.unusedSimpArgs false

/-! ### spec_l01Long: function 82 -/
def spec_l01Long.l0 : Nat → Int → Int → List Int → Int → Option (ByteArray)
 | 0, _, _, _, _ => none
 | k + 1, x0, x1, x5, x6 => if x6 < x0 then (if 0 ≤ x6 then (if x6 < (x5.length : Int) then (spec_l01Long.l0 k x0 x1 (x5.set (x6 : Int).toNat x1) (wrap64 (x6 + 1))) else (none)) else (none)) else (some (strOfNums x5))
def spec_l01Long.f (k : Nat) (a0 : Int) (a1 : Int) : Option (ByteArray) := if 0 ≤ a0 then (if (a0 : Int).toNat ≤ 281474976710656 then (spec_l01Long.l0 k a0 a1 (List.replicate (a0 : Int).toNat 0) 0) else (none)) else (none)
theorem spec_l01Long.mono_l : ∀ k, (∀ y0 y1 y2 y3, LeO (spec_l01Long.l0 k y0 y1 y2 y3) (spec_l01Long.l0 (k + 1) y0 y1 y2 y3))
 | 0 => fun _ _ _ _ r h => by simp [spec_l01Long.l0] at h
 | k + 1 => by
  have ih0 := spec_l01Long.mono_l k
  ·intro y0 y1 y2 y3
   unfold spec_l01Long.l0
   repeat' first
   | (with_reducible exact ih0 _ _ _ _)
   | (with_reducible exact LeO.refl _)
   | (with_reducible exact LeO.none _)
   | (with_reducible refine LeO.ite ?_ ?_)
   | (with_reducible refine LeO.bind ?_ (fun _ => ?_))
   | exact ih0 _ _ _ _
   | exact LeO.none _
   | refine LeO.ite ?_ ?_
   | refine LeO.bind ?_ (fun _ => ?_)
theorem spec_l01Long.mono : ∀ a0 a1 k, LeO (spec_l01Long.f k a0 a1) (spec_l01Long.f (k + 1) a0 a1) := by
 intro a0 a1 k
 have ih0 := spec_l01Long.mono_l k
 unfold spec_l01Long.f
 repeat' first
   | (with_reducible exact ih0 _ _ _ _)
   | (with_reducible exact LeO.refl _)
   | (with_reducible exact LeO.none _)
   | (with_reducible refine LeO.ite ?_ ?_)
   | (with_reducible refine LeO.bind ?_ (fun _ => ?_))
   | exact ih0 _ _ _ _
   | exact LeO.none _
   | refine LeO.ite ?_ ?_
   | refine LeO.bind ?_ (fun _ => ?_)
set_option maxHeartbeats 8000000 in
set_option maxRecDepth 100000 in
theorem spec_l01Long.calls (k : Nat) (a0 : Int) (a1 : Int) (r : ByteArray) (w : World) (h : spec_l01Long.f k a0 a1 = some r) :
  Calls Try.prog 82 #[.int .i64 a0, .int .u8 a1] w fun e w' => e = .returned (.string r) ∧ Below w.heap.size w w' := by
 have HB := ak (Below.refl w.heap.size w)
 have H : (if 0 ≤ a0 then (if (a0 : Int).toNat ≤ 281474976710656 then (spec_l01Long.l0 k a0 a1 (List.replicate (a0 : Int).toNat 0) 0) else (none)) else (none)) = some r := h
 clear h
 by_cases c3 : 0 ≤ a0
 ·rw [if_pos c3] at H
  have c3b0 := eq_true c3
  have c3b1 : decide (0 ≤ a0) = true := decide_eq_true c3
  clear c3
  by_cases c4 : (a0 : Int).toNat ≤ 281474976710656
  ·rw [if_pos c4] at H
   have c4b0 := eq_true c4
   have c4b1 : decide ((a0 : Int).toNat ≤ 281474976710656) = true := decide_eq_true c4
   clear c4
   obtain ⟨y133, hy133⟩ : ∃ y_ : List Int, y_ = (List.replicate (a0 : Int).toNat 0) := ⟨_, rfl⟩
   replace H : (spec_l01Long.l0 k a0 a1 y133 0) = some r := by first | (rw [hy133]; with_reducible exact H) | (have H2_ := (Option.bind_some _ _).symm.trans H; rw [hy133]; with_reducible exact H2_) | (have H2_ := (Option.bind_some _ _).symm.trans H; with_reducible exact H2_) | with_reducible exact H | (rw [hy133]; exact H) | exact H
   have Ny133 := Aside0.mk hy133
   clear hy133
   have H' := Aside0.mk H
   clear H
   go_enter Try.func82, Try.ntmps82
   go_wp2_with (first | ((with_reducible refine gate_dst (N := 8) rfl ?_); refine Kd.R_make (Kd.int .u8) _ 5 rfl (N := 8) rfl 96 _ _ rfl a0 rfl rfl Try.underlying96 (.int .u8 0) 1 info5 rfl (by decide) (by omega) 0 (ok := fun _ => True) (okp := fun _ => True) rfl (fun _ hk => hk) trivial (of_decide_eq_true (by first | (with_reducible assumption) | assumption)) (Nat.le_trans (Nat.mul_le_mul_right _ (of_decide_eq_true (by first | (with_reducible assumption) | assumption) : a0.toNat ≤ 281474976710656)) (by omega)) (Below.refl _ _) (Nat.le_refl _) ?_; intro v134 w5 ho6 hb hg_ hnew_; clear hg_ hnew_; (first | rw [← Ny133.out] at ho6 | (simp only [Int.reduceToNat] at ho6; rw [← Ny133.out] at ho6)); replace HO135 := ak (Kd.R_lower ho6 (below_size (lG HB))); replace HB := lB HB hb; clear hb ho6))
   go_loopg [6] k (fun kq v6 w' => ∃ (x5_1 : List Int) (x6_1 : Int), v6 = .int .i64 x6_1 ∧ Aside0 (spec_l01Long.l0 kq a0 a1 x5_1 x6_1 = some r) ∧ Aside0 (kq ≤ k) ∧ Aside0 (Kd.R (Kd.int .u8) 5 w' w.heap.size (fun _ => True) v134 x5_1) ∧ Aside0 (Below w.heap.size w w'))
   case atStart => exact ⟨(y133), (0), (by first | rfl | (simp; done) | (simp [*]; done)), H', ⟨Nat.le_refl _⟩, ⟨by (with_reducible repeat (first | apply Kd.R_alloc | apply Kd.R_drewN | apply Kd.R_drew)); exact HO135.out⟩, ⟨by exact lG HB⟩⟩
   case round =>
    clear H'
    try clear p2
    try clear c3
    try clear c3b0
    try clear c3b1
    try clear c4
    try clear c4b0
    try clear c4b1
    obtain ⟨x5_1, x6_1, rfl, HA, HK1, HO_5, HB⟩ := hrel
    cases gk with
    | zero => exact absurd HA.out (by simp [spec_l01Long.l0])
    | succ k1 =>
     have H := HA.out
     clear HA
     simp only [spec_l01Long.l0] at H
     by_cases c7 : x6_1 < a0
     ·rw [if_pos c7] at H
      have c7b0 : decide (x6_1 < a0) = true := decide_eq_true c7
      clear c7
      by_cases c8 : 0 ≤ x6_1
      ·rw [if_pos c8] at H
       have c8b0 : decide (0 ≤ x6_1) = true := decide_eq_true c8
       clear c8
       by_cases c9 : x6_1 < (x5_1.length : Int)
       ·rw [if_pos c9] at H
        have c9b0 : decide (x6_1 < (x5_1.length : Int)) = true := decide_eq_true c9
        clear c9
        obtain ⟨y136, hy136⟩ : ∃ y_ : List Int, y_ = (x5_1.set (x6_1 : Int).toNat a1) := ⟨_, rfl⟩
        replace H : (spec_l01Long.l0 k1 a0 a1 y136 (wrap64 (x6_1 + 1))) = some r := by first | (rw [hy136]; with_reducible exact H) | (have H2_ := (Option.bind_some _ _).symm.trans H; rw [hy136]; with_reducible exact H2_) | (have H2_ := (Option.bind_some _ _).symm.trans H; with_reducible exact H2_) | with_reducible exact H | (rw [hy136]; exact H) | exact H
        have Ny136 := Aside0.mk hy136
        clear hy136
        have H' := Aside0.mk H
        clear H
        have p10 : 0 ≤ (x6_1 : Int) := of_decide_eq_true (by first | (with_reducible assumption) | assumption)
        have q10 : (x6_1 : Int) < ((x5_1.length : Int) : Int) := of_decide_eq_true (by first | (with_reducible assumption) | assumption)
        obtain ⟨go10, co10, eo10, gb10, gl10, cl10, HG10⟩ := Kd.R_form HO_5.out (by omega)
        (first | cases eo10 | (injection eo10 with ea_ en_ ec_; (first | subst ea_ | (injection ea_ with ea_; subst ea_)); subst ec_; clear en_))
        have GB10 := Aside0.mk gb10
        have GG10 := Aside0.mk HG10
        clear gb10 gl10 HG10
        obtain ⟨hx10_0, hf10_0⟩ := Kd.R_celln 0 HO_5.out (x6_1 : Int) p10 q10
        replace p10 := eq_true p10
        replace q10 := eq_true q10
        have HP11 := Kd.R_putg HO_5.out (x6_1 : Int) a1
        go_wp2_with (first | ((with_reducible refine gate_store (t := 5) (p := 17) rfl ?_); refine store_event (t := 5) (p := 17) (v := ?vo_w12) (w1 := (wr.setCell ⟨go10, (x6_1 : Int).toNat, none⟩ (.int .u8 a1))) ?hg ?ho ?hn ?hr ?_; (case ho => rfl); (case hg => rfl); (case hn => rfl); (case hr => first | (go_simp; done) | (go_simp; rfl)); intro w12 hw; have hg : wr.grownBy w12 (some go10) := (by rw [hw]; exact HP11.2); have hp_ : Kd.R (Kd.int .u8) 5 w12 w.heap.size (fun _ => True) (.slice (some ⟨go10, 0, none⟩) x5_1.length co10) y136 := (by rw [hw, Ny136.out]; exact HP11.1); clear HP11; replace HO_5 := ak (hp_); replace HB := ak ((by rw [hw]; exact below_set (HB.out) GB10.out : Below w.heap.size w w12)); clear hg hw hp_))
        go_roundg k1
        case measure => have := HK1.out; omega
        case rel => exact ⟨(y136), (wrap64 (x6_1 + 1)), (by first | rfl | (simp; done) | (simp [*]; done)), H', ⟨by have := HK1.out; omega⟩, ⟨by (with_reducible repeat (first | apply Kd.R_alloc | apply Kd.R_drewN | apply Kd.R_drew)); exact HO_5.out⟩, ⟨by exact lG HB⟩⟩
       ·rw [if_neg c9] at H
        exact absurd H (by simp)
      ·rw [if_neg c8] at H
       exact absurd H (by simp)
     ·rw [if_neg c7] at H
      have c7b0 : decide (x6_1 < a0) = false := decide_eq_false c7
      clear c7
      obtain rfl := Option.some.inj H
      have hcv13 := own_string (P := Try.prog) Try.underlying96 Try.underlying5 Try.underlying9 (Kd.own_of_R HO_5.out)
      go_wp2
      go_ret
      exact ⟨ew, by exact lG HB⟩
  ·rw [if_neg c4] at H
   exact absurd H (by simp)
 ·rw [if_neg c3] at H
  exact absurd H (by simp)

/-! ### spec_l03Zero: function 67 -/
def spec_l03Zero.f (k : Nat)  : Option (ByteArray) := (spec_l01Long.f k 32 0).bind fun t137 => (some t137)
theorem spec_l03Zero.mono : ∀ k, LeO (spec_l03Zero.f k ) (spec_l03Zero.f (k + 1) ) := by
 intro  k
 unfold spec_l03Zero.f
 repeat' first
   | (with_reducible exact spec_l01Long.mono _ _ _)
   | (with_reducible exact LeO.refl _)
   | (with_reducible exact LeO.none _)
   | (with_reducible refine LeO.ite ?_ ?_)
   | (with_reducible refine LeO.bind ?_ (fun _ => ?_))
   | exact spec_l01Long.mono _ _ _
   | exact LeO.none _
   | refine LeO.ite ?_ ?_
   | refine LeO.bind ?_ (fun _ => ?_)
set_option maxHeartbeats 8000000 in
set_option maxRecDepth 100000 in
theorem spec_l03Zero.calls (k : Nat)  (r : ByteArray) (w : World) (h : spec_l03Zero.f k  = some r) :
  Calls Try.prog 67 #[] w fun e w' => e = .returned (.string r) ∧ Below w.heap.size w w' := by
 have HB := ak (Below.refl w.heap.size w)
 have H : ((spec_l01Long.f k 32 0).bind fun t137 => (some t137)) = some r := h
 clear h
 replace H := Option.bind_eq_some_iff.mp H
 obtain ⟨t137, A10, H⟩ := H
 replace H : (some t137) = some r := H
 have A1 := Aside0.mk A10
 clear A10
 obtain rfl := Option.some.inj H
 go_enter Try.func67, Try.ntmps67
 go_wp2_with (first | ((with_reducible refine gate_callee (f := 82) rfl ?_); refine gl (some 1) Try.func82 #[.int .i64 32, .int .u8 0] ?_; (with_reducible refine (spec_l01Long.calls k 32 0 t137 _ A1.out).mono ?_); rintro e w2 ⟨rfl, hb⟩; refine ⟨_, rfl, ?_⟩; replace HB := lB HB hb; (try clear hb); (try clear hk)))
 go_ret
 exact ⟨ew, by exact lG HB⟩

/-! ### spec_DiskNew: function 33 -/
def spec_DiskNew.l0 : Nat → Int → Int → List ByteArray → Option (List ByteArray × (List (S67)) × Bool)
 | 0, _, _, _ => none
 | k + 1, x0, x5, x141000 => if x5 < x0 then ((spec_l03Zero.f k).bind fun t141 => (if x141000.length < 8796093022208 then (spec_DiskNew.l0 k x0 (wrap64 (x5 + 1)) (x141000 ++ [t141])) else (none))) else (some (x141000, ([] : List (S67)), true))
def spec_DiskNew.f (k : Nat) (a0 : Int) : Option (List ByteArray × (List (S67)) × Bool) := (spec_l01In.f a0 1 100).bind fun t139 => (if t139 = true then (spec_DiskNew.l0 k a0 0 ([] : List ByteArray)) else (some (([] : List ByteArray), ([] : List (S67)), false)))
theorem spec_DiskNew.mono_l : ∀ k, (∀ y0 y1 y2, LeO (spec_DiskNew.l0 k y0 y1 y2) (spec_DiskNew.l0 (k + 1) y0 y1 y2))
 | 0 => fun _ _ _ r h => by simp [spec_DiskNew.l0] at h
 | k + 1 => by
  have ih0 := spec_DiskNew.mono_l k
  ·intro y0 y1 y2
   unfold spec_DiskNew.l0
   repeat' first
   | (with_reducible exact ih0 _ _ _)
   | (with_reducible exact spec_l03Zero.mono _)
   | (with_reducible exact LeO.refl _)
   | (with_reducible exact LeO.none _)
   | (with_reducible refine LeO.ite ?_ ?_)
   | (with_reducible refine LeO.bind ?_ (fun _ => ?_))
   | exact ih0 _ _ _
   | exact spec_l03Zero.mono _
   | exact LeO.none _
   | refine LeO.ite ?_ ?_
   | refine LeO.bind ?_ (fun _ => ?_)
theorem spec_DiskNew.mono : ∀ a0 k, LeO (spec_DiskNew.f k a0) (spec_DiskNew.f (k + 1) a0) := by
 intro a0 k
 have ih0 := spec_DiskNew.mono_l k
 unfold spec_DiskNew.f
 repeat' first
   | (with_reducible exact ih0 _ _ _)
   | (with_reducible exact spec_l03Zero.mono _)
   | (with_reducible exact LeO.refl _)
   | (with_reducible exact LeO.none _)
   | (with_reducible refine LeO.ite ?_ ?_)
   | (with_reducible refine LeO.bind ?_ (fun _ => ?_))
   | exact ih0 _ _ _
   | exact spec_l03Zero.mono _
   | exact LeO.none _
   | refine LeO.ite ?_ ?_
   | refine LeO.bind ?_ (fun _ => ?_)
set_option maxHeartbeats 8000000 in
set_option maxRecDepth 100000 in
theorem spec_DiskNew.calls (k : Nat) (a0 : Int) (r1 : List ByteArray) (r2 : List (S67)) (r3 : Bool) (w : World) (h : spec_DiskNew.f k a0 = some (r1, r2, r3)) :
  Calls Try.prog 33 #[.int .i64 a0] w fun e w' => ∃ v0_ v1_ : Value, e = .returned (.tuple #[.agg #[v0_, v1_], .bool r3]) ∧ Kd.R Kd.string 9 w' w.heap.size (fun _ => True) v0_ r1 ∧ Kd.R k67 67 w' w.heap.size (fun _ => True) v1_ r2 ∧ Below w.heap.size w w' := by
 have hu30 := Try.underlying30
 have HB := ak (Below.refl w.heap.size w)
 have H : ((spec_l01In.f a0 1 100).bind fun t139 => (if t139 = true then (spec_DiskNew.l0 k a0 0 ([] : List ByteArray)) else (some (([] : List ByteArray), ([] : List (S67)), false)))) = some (r1, r2, r3) := h
 clear h
 replace H := Option.bind_eq_some_iff.mp H
 obtain ⟨t139, A20, H⟩ := H
 replace H : (if t139 = true then (spec_DiskNew.l0 k a0 0 ([] : List ByteArray)) else (some (([] : List ByteArray), ([] : List (S67)), false))) = some (r1, r2, r3) := H
 have A2 := Aside0.mk A20
 clear A20
 by_cases c3 : t139 = true
 ·subst c3
  have H1 : (spec_DiskNew.l0 k a0 0 ([] : List ByteArray)) = some (r1, r2, r3) := by rw [if_pos rfl] at H; exact H
  clear H
  have H := H1
  clear H1
  have H' := Aside0.mk H
  clear H
  go_enter Try.func33, Try.ntmps33
  go_wp2_with (first | ((with_reducible refine gate_dst (N := 2) rfl ?_); refine bx 2 #[.slice none 0 0, .slice none 0 0] 30 ?_; intro gb138 hg w4 hbox hb; replace BK138 := ak (hbox); replace GW138 := ak (bz hg (lG HB)); replace GE138 := ak (bz hg (lG HB)); replace HB := lB HB hb; clear hb hbox hg) | ((with_reducible refine gate_callee (f := 49) rfl ?_); refine gl (some 7) Try.func49 #[.int .i64 a0, .int .i64 1, .int .i64 100] ?_; (with_reducible refine (spec_l01In.calls a0 1 100 true _ A2.out).mono ?_); rintro e w' ⟨rfl, ⟨nd, rfl⟩⟩; refine ⟨_, rfl, ?_⟩; (try (rw [drewN_self w4]; generalize hq_ : World.drewN w4 _ = w4; have n0_ : Aside0 (w4.heap[gb138]? = some (.cells #[.slice none 0 0, .slice none 0 0] 30 (0, 0))) := ⟨by rw [← hq_]; exact (bG BK138)⟩; have n1_ : Aside0 (Below w.heap.size w w4) := ⟨by rw [← hq_]; exact (lT HB (gC GE138 gN))⟩; clear BK138 HB hq_; have BK138 := n0_; have HB := n1_; clear n0_ n1_)); (try (have hy138_0 : w4.cell? ⟨gb138, 0, none⟩ = some (.slice none 0 0) := bc BK138 0; have hv138_0 := blk_frozen BK138.out 0; have hy138_1 : w4.cell? ⟨gb138, 1, none⟩ = some (.slice none 0 0) := bc BK138 1; have hv138_1 := blk_frozen BK138.out 1))) | ((with_reducible refine gate_dst (N := 4) rfl ?_); refine bx 4 #[.slice none 0 0, .slice none 0 0] 30 ?_; intro gb140 hg w5 hbox hb; replace BK140 := ak (hbox); replace GW140 := ak (bz hg (lT HB (gC GE138 gN))); replace GE140 := ak (bz hg (lT HB (gC GE138 gN))); replace HB := ak (below_step (lT HB (gC GE138 gN)) hb); replace NB138_140 := ak (nl hg (bG BK138)); replace NB140_138 := ak (ng hg (bG BK138)); replace BK138 := bB BK138 hb; clear hb hbox hg; have hnb6 := NB140_138.out; have hnc6 := NB138_140.out; obtain ⟨hcz7_0, hcz7_1, hfz7_0, hfz7_1⟩ := bC2 BK140))
  go_loopg [5] k (fun kq v5 w' => ∃ (x5_1 : Int) (x141000_1 : List ByteArray) (u141000 : Value), v5 = .int .i64 x5_1 ∧ Aside0 (spec_DiskNew.l0 kq a0 x5_1 x141000_1 = some (r1, r2, r3)) ∧ Aside0 (kq ≤ k) ∧ Aside0 (Kd.R Kd.string 9 w' w.heap.size (fun _ => True) u141000 x141000_1) ∧ Aside0 (w'.heap[gb138]? = some (.cells #[(.slice none 0 0), (.slice none 0 0)] 30 (0, 0))) ∧ Aside0 (w'.heap[gb140]? = some (.cells #[u141000, (.slice none 0 0)] 30 (0, 0))) ∧ Aside0 (Below w.heap.size w w'))
  case atStart => exact ⟨(0), (([] : List ByteArray)), (.slice none 0 0), (by first | rfl | (simp; done) | (simp [*]; done)), H', ⟨Nat.le_refl _⟩, ⟨nil_⟩, ⟨by (with_reducible repeat (first | refine blk_drewN ?_ _ | refine blk_drew ?_ | refine blk_alloc ?_ _)); refine blk_far ?_ NB138_140.out _; (with_reducible repeat (first | refine blk_drewN ?_ _ | refine blk_drew ?_ | refine blk_alloc ?_ _)); refine blk_far ?_ NB138_140.out _; (with_reducible repeat (first | refine blk_drewN ?_ _ | refine blk_drew ?_ | refine blk_alloc ?_ _)); exact BK138.out⟩, ⟨bW BK140⟩, ⟨by exact lT HB (gC GE138 (gC GE140 gN))⟩⟩
  case round =>
   clear H'
   try clear p2
   try clear c3
   try clear c4
   try clear c6
   try clear hcz7_0
   try clear hcz7_1
   try clear hfz7_0
   try clear hfz7_1
   obtain ⟨x5_1, x141000_1, u141000, rfl, HA, HK1, HO_141000, BK138, BK140, HB⟩ := hrel
   cases gk with
   | zero => exact absurd HA.out (by simp [spec_DiskNew.l0])
   | succ k1 =>
    have H := HA.out
    clear HA
    simp only [spec_DiskNew.l0] at H
    by_cases c8 : x5_1 < a0
    ·rw [if_pos c8] at H
     have c8b0 : decide (x5_1 < a0) = true := decide_eq_true c8
     clear c8
     replace H := Option.bind_eq_some_iff.mp H
     obtain ⟨t141, A90, H⟩ := H
     replace H : (if x141000_1.length < 8796093022208 then (spec_DiskNew.l0 k1 a0 (wrap64 (x5_1 + 1)) (x141000_1 ++ [t141])) else (none)) = some (r1, r2, r3) := H
     have A9 := Aside0.mk A90
     clear A90
     by_cases c10 : x141000_1.length < 8796093022208
     ·rw [if_pos c10] at H
      have LMc10 := Aside0.mk c10
      clear c10
      obtain ⟨y142, hy142⟩ : ∃ y_ : List ByteArray, y_ = (x141000_1 ++ [t141]) := ⟨_, rfl⟩
      replace H : (spec_DiskNew.l0 k1 a0 (wrap64 (x5_1 + 1)) y142) = some (r1, r2, r3) := by first | (rw [hy142]; with_reducible exact H) | (have H2_ := (Option.bind_some _ _).symm.trans H; rw [hy142]; with_reducible exact H2_) | (have H2_ := (Option.bind_some _ _).symm.trans H; with_reducible exact H2_) | with_reducible exact H | (rw [hy142]; exact H) | exact H
      have Ny142 := Aside0.mk hy142
      clear hy142
      have H' := Aside0.mk H
      clear H
      try go_wp2
      replace HO_141000 := ak (Kd.R_drew HO_141000.out)
      replace BK138 := ak (blk_drew BK138.out)
      replace BK140 := ak (blk_drew BK140.out)
      replace HB := ak (below_drew1 HB.out)
      refine start_ (n := 7) (S := fun w' => w'.cell? ⟨gb140, 0, none⟩ = some (u141000) ∧ w'.cell? ⟨gb140, 1, none⟩ = some (.slice none 0 0)) (ds := [6]) #[f_,f_,f_,f_,f_,f_,f_] (by kernel_rfl) rfl rfl ⟨bc BK140 0, bc BK140 1⟩ (fun hHeld => ?_)
      generalize wr.drew = w11 at HO_141000 BK138 BK140 HB hHeld ⊢
      refine pure_ (i := 0) (N := some 16) (v := ?_) (a' := ?_) #[t_,f_,f_,f_,f_,f_,f_] rfl rfl (by kernel_rfl) (fun _ _ _ h => h) (Or.inl ⟨by rfl, ?_⟩) ?_ ?_
      rotate_left
      ·intro w'
       go_simp
       with_reducible rfl
      rotate_left
      ·simp only [Act.put, List.setIfInBounds_toArray, List.set_cons_zero, List.set_cons_succ, i64_w, i32_w]
       rfl
      refine take_ (i := 1) (N := some 17) (v := ?_) (a' := ?_) #[t_,t_,f_,f_,f_,f_,f_] rfl rfl (by kernel_rfl) (fun _ _ _ h => h) (Or.inl ⟨by rfl, ?_⟩) hHeld ?_ ?_
      rotate_left
      ·rintro w' ⟨s0, s1⟩
       go_simp
       with_reducible rfl
      rotate_left
      ·simp only [Act.put, List.setIfInBounds_toArray, List.set_cons_zero, List.set_cons_succ, i64_w, i32_w]
       rfl
      refine one_ (i := 2) (N := some 18) #[t_,t_,t_,f_,f_,f_,f_] rfl rfl (by kernel_rfl) (by decide) (fun K hK => ?_)
      refine goes_ Try.func67 (by kernel_rfl) rfl #[] (by rfl) rfl rfl (by (try simp only [List.map_toArray, List.map_cons, List.map_nil]); first | done | rfl | (simp only [List.length_drop, List.length_take]; rfl)) ?_
      with_reducible refine (spec_l03Zero.calls k1  t141 _ A9.out).mono ?_
      rintro e w12 ⟨rfl, hb⟩
      refine ⟨_, rfl, ?_⟩
      replace HO_141000 := rB HO_141000 hb
      replace BK138 := bB BK138 hb
      replace BK140 := bB BK140 hb
      replace HB := ak (below_step (lT HB (gC GE138 (gC GE140 gN))) hb)
      (try clear hb)
      (try clear hb2)
      (try clear hk)
      (try clear hi)
      refine hK.out _ _ ⟨bc BK140 0, bc BK140 1⟩ (fun hHeld => ?_)
      clear hK K
      refine nm ?_
      refine one_ (i := 3) (N := some 19) #[t_,t_,t_,t_,f_,f_,f_] rfl rfl (by kernel_rfl) (by decide) (fun K hK => ?_)
      refine value_ (w1 := ?_) (v := ?_) (by rfl) rfl ?_ ?_
      rotate_left 2
      ·go_simp
       constructor
       ·rfl
       ·rfl
      refine hK.out _ _ ⟨(blk_cell (blk_alloc BK140.out _) 0).trans rfl, (blk_cell (blk_alloc BK140.out _) 1).trans rfl⟩ (fun hHeld => ?_)
      clear hK K
      refine nm ?_
      refine one_ (i := 4) (N := some 20) #[t_,t_,t_,t_,t_,f_,f_] rfl rfl (by kernel_rfl) (by decide) (fun K hK => ?_)
      refine Kd.R_append_step Kd.string (w0 := w) w.heap.size (by rfl) (.tmp 17) (.tmp 19) 22 9 (.string ⟨#[]⟩) 16 rfl Try.underlying22 info9 rfl (by decide) (by omega) u141000 x141000_1 t141 [.string t141] (fun _ => True) (fun _ => False) rfl rfl ?aP (fun _ hk => hk.elim) ?aF ?aO ?aB ?aS ?aL ?_
      (case aP => exact rfl)
      (case aB => exact (lT HB (gC GE138 (gC GE140 gN))))
      (case aF => exact (fun _ _ => trivial))
      (case aO => exact (rG HO_141000))
      (case aS => exact (below_size (lT HB (gC GE138 (gC GE140 gN)))))
      (case aL => have := LMc10.out; omega)
      intro v143 w13 ho hb hg hat
      rw [← Ny142.out] at ho
      have n0_ := ak (blk_grown (g := gb138) (o := .cells #[.slice none 0 0, .slice none 0 0] 30 (0, 0)) (bG BK138) hg (Kd.R_ne HO_141000.out BK138.out (by decide)))
      have n1_ := ak (blk_grown (g := gb140) (o := .cells #[u141000, .slice none 0 0] 30 (0, 0)) (bG BK140) hg (Kd.R_ne HO_141000.out BK140.out (by decide)))
      have n2_ := ak (hb)
      have n3_ := ak (ho)
      clear BK138
      clear BK140
      clear HB
      clear HO_141000
      have BK138 := n0_
      have BK140 := n1_
      have HB := n2_
      have HO144 := n3_
      clear n0_ n1_ n2_ n3_
      clear ho hb hg hat
      obtain ⟨Ao14, co14, eo14⟩ := Kd.R_slice HO144.out
      (first | subst eo14 | (injection eo14 with f1_ f2_ f3_; have f4_ := f1_.symm; have f5_ := f3_.symm; clear f1_ f2_ f3_; subst f4_; subst f5_))
      refine hK.out _ _ ⟨bc BK140 0, bc BK140 1⟩ (fun hHeld => ?_)
      clear hK K
      refine nm ?_
      refine pure_ (i := 5) (N := some 21) (v := ?_) (a' := ?_) #[t_,t_,t_,t_,t_,t_,f_] rfl rfl (by kernel_rfl) (fun _ _ _ h => h) (Or.inl ⟨by rfl, ?_⟩) ?_ ?_
      rotate_left
      ·intro w'
       go_simp
       with_reducible rfl
      rotate_left
      ·simp only [Act.put, List.setIfInBounds_toArray, List.set_cons_zero, List.set_cons_succ, i64_w, i32_w]
       rfl
      refine last_ (i := 6) (N := none) #[t_,t_,t_,t_,t_,t_,t_] rfl rfl (by kernel_rfl) (by decide) (fun K hK => ?_)
      have hs15 : w13.cell? ⟨gb140, 0, none⟩ = some (u141000) := bc BK140 0
      have hfs15 := blk_frozen BK140.out 0
      have hns15_0 := NB138_140.out
      have hms15_0 := NB140_138.out
      refine skip_ (w1 := ?_) (by rfl) rfl ?_ ?_
      rotate_left
      ·go_simp
       rfl
      refine hK.out _ _ ?_
      clear hK K
      refine done_ (by kernel_rfl) ?_
      try go_wp2
      go_roundg k1
      case measure => have := HK1.out; omega
      case rel => exact ⟨(wrap64 (x5_1 + 1)), (y142), (.slice Ao14 y142.length co14), (by first | rfl | (simp; done) | (simp [*]; done)), H', ⟨by have := HK1.out; omega⟩, ⟨by exact Kd.R_mono (rT HO144 BK140 (by decide)) (fun _ hk => trivial)⟩, ⟨by (with_reducible repeat (first | refine blk_drewN ?_ _ | refine blk_drew ?_ | refine blk_alloc ?_ _)); refine blk_far ?_ NB138_140.out _; (with_reducible repeat (first | refine blk_drewN ?_ _ | refine blk_drew ?_ | refine blk_alloc ?_ _)); exact BK138.out⟩, ⟨bW BK140⟩, ⟨by exact lT HB (gC GE138 (gC GE140 gN))⟩⟩
     ·rw [if_neg c10] at H
      exact absurd H (by simp)
    ·rw [if_neg c8] at H
     have c8b0 : decide (x5_1 < a0) = false := decide_eq_false c8
     clear c8
     simp only [Option.some.injEq, Prod.mk.injEq] at H
     obtain ⟨rfl, rfl, rfl⟩ := H
     have hnb16 := NB140_138.out
     have hnc16 := NB138_140.out
     have hcz17_0 : wr.cell? ⟨gb140, 0, none⟩ = some (u141000) := bc BK140 0
     have hcz17_1 : wr.cell? ⟨gb140, 1, none⟩ = some (.slice none 0 0) := bc BK140 1
     have hfz17_0 := blk_frozen BK140.out 0
     have hfz17_1 := blk_frozen BK140.out 1
     obtain ⟨Ao18, co18, eo18⟩ := Kd.R_slice HO_141000.out
     subst eo18
     have hcz19_0 : wr.cell? ⟨gb138, 0, none⟩ = some (.slice none 0 0) := bc BK138 0
     have hcz19_1 : wr.cell? ⟨gb138, 1, none⟩ = some (.slice none 0 0) := bc BK138 1
     have hfz19_0 := blk_frozen BK138.out 0
     have hfz19_1 := blk_frozen BK138.out 1
     go_wp2
     refine bodyPost_ret (results_ct rfl _ _ gb138 30 #[.slice Ao18 x141000_1.length co18, .slice none 0 0] (0, 0) _ rfl (bW BK138) Try.underlying30 rfl (by kernel_rfl)) rfl ?_
     exact ⟨_, _, ew, by exact Kd.R_mono (rT HO_141000 BK138 (by decide)) (fun _ hk => trivial), nil_, by exact lT HB (gC GE138 (gC GE140 gN))⟩
 ·replace c3 := Bool.eq_false_iff.mpr c3
  subst c3
  have H1 : (some (([] : List ByteArray), ([] : List (S67)), false)) = some (r1, r2, r3) := by rw [if_neg (show ¬ (false = true) by decide)] at H; exact H
  clear H
  have H := H1
  clear H1
  simp only [Option.some.injEq, Prod.mk.injEq] at H
  obtain ⟨rfl, rfl, rfl⟩ := H
  go_enter Try.func33, Try.ntmps33
  go_wp2_with (first | ((with_reducible refine gate_dst (N := 2) rfl ?_); refine bx 2 #[.slice none 0 0, .slice none 0 0] 30 ?_; intro gb138 hg w20 hbox hb; replace BK138 := ak (hbox); replace GW138 := ak (bz hg (lG HB)); replace GE138 := ak (bz hg (lG HB)); replace HB := lB HB hb; clear hb hbox hg) | ((with_reducible refine gate_callee (f := 49) rfl ?_); refine gl (some 7) Try.func49 #[.int .i64 a0, .int .i64 1, .int .i64 100] ?_; (with_reducible refine (spec_l01In.calls a0 1 100 false _ A2.out).mono ?_); rintro e w' ⟨rfl, ⟨nd, rfl⟩⟩; refine ⟨_, rfl, ?_⟩; (try (rw [drewN_self w20]; generalize hq_ : World.drewN w20 _ = w20; have n0_ : Aside0 (w20.heap[gb138]? = some (.cells #[.slice none 0 0, .slice none 0 0] 30 (0, 0))) := ⟨by rw [← hq_]; exact (bG BK138)⟩; have n1_ : Aside0 (Below w.heap.size w w20) := ⟨by rw [← hq_]; exact (lT HB (gC GE138 gN))⟩; clear BK138 HB hq_; have BK138 := n0_; have HB := n1_; clear n0_ n1_)); (try (have hy138_0 : w20.cell? ⟨gb138, 0, none⟩ = some (.slice none 0 0) := bc BK138 0; have hv138_0 := blk_frozen BK138.out 0; have hy138_1 : w20.cell? ⟨gb138, 1, none⟩ = some (.slice none 0 0) := bc BK138 1; have hv138_1 := blk_frozen BK138.out 1)); obtain ⟨hcz21_0, hcz21_1, hfz21_0, hfz21_1⟩ := bC2 BK138))
  refine bodyPost_ret (results_ct rfl _ _ gb138 30 #[.slice none 0 0, .slice none 0 0] (0, 0) _ rfl (bW BK138) Try.underlying30 rfl (by kernel_rfl)) rfl ?_
  exact ⟨_, _, ew, nil_, nil_, by exact lT HB (gC GE138 gN)⟩

/-! ### impl_in: function 52 -/
def impl_in.f (a0 : Int) (a1 : Int) (a2 : Int) : Option (Bool) := if a0 ≥ a1 then (some (decide (a0 ≤ a2))) else (some false)
set_option maxHeartbeats 8000000 in
set_option maxRecDepth 100000 in
theorem impl_in.calls (a0 : Int) (a1 : Int) (a2 : Int) (r : Bool) (w : World) (h : impl_in.f a0 a1 a2 = some r) :
  Calls Try.prog 52 #[.int .i64 a0, .int .i64 a1, .int .i64 a2] w fun e w' => e = .returned (.bool r) ∧ Drawn0 w w' := by
 have H : (if a0 ≥ a1 then (some (decide (a0 ≤ a2))) else (some false)) = some r := h
 clear h
 by_cases c4 : a0 ≥ a1
 ·rw [if_pos c4] at H
  have c4b0 : decide (a1 ≤ a0) = true := decide_eq_true c4
  clear c4
  obtain rfl := Option.some.inj H
  go_enter Try.func52, Try.ntmps52
  go_wp2
  go_ret
  exact ⟨by first | rfl | (simp; done) | (simp [*]; done), by repeat (first | exact Drawn0.refl _ | apply Drawn0.step)⟩
 ·rw [if_neg c4] at H
  have c4b0 : decide (a1 ≤ a0) = false := decide_eq_false c4
  clear c4
  obtain rfl := Option.some.inj H
  go_enter Try.func52, Try.ntmps52
  go_wp2
  go_ret
  exact ⟨by first | rfl | (simp; done) | (simp [*]; done), by repeat (first | exact Drawn0.refl _ | apply Drawn0.step)⟩

/-! ### bits_Mul32: function 96 -/
def bits_Mul32.f (a0 : Int) (a1 : Int) : Option (Int × Int) := some (((IntKind.u64.wrap ((IntKind.u64.wrap (a0)) * (IntKind.u64.wrap (a1)))) / 4294967296) % 4294967296, (IntKind.u64.wrap ((IntKind.u64.wrap (a0)) * (IntKind.u64.wrap (a1)))) % 4294967296)
set_option maxHeartbeats 8000000 in
set_option maxRecDepth 100000 in
theorem bits_Mul32.calls (a0 : Int) (a1 : Int) (r1 : Int) (r2 : Int) (w : World) (h : bits_Mul32.f a0 a1 = some (r1, r2)) :
  Calls Try.prog 96 #[.int .u32 a0, .int .u32 a1] w fun e w' => e = .returned (.tuple #[.int .u32 r1, .int .u32 r2]) ∧ Drawn0 w w' := by
 have H : (some (((IntKind.u64.wrap ((IntKind.u64.wrap (a0)) * (IntKind.u64.wrap (a1)))) / 4294967296) % 4294967296, (IntKind.u64.wrap ((IntKind.u64.wrap (a0)) * (IntKind.u64.wrap (a1)))) % 4294967296)) = some (r1, r2) := h
 clear h
 simp only [Option.some.injEq, Prod.mk.injEq] at H
 obtain ⟨rfl, rfl⟩ := H
 go_enter Try.func96, Try.ntmps96
 go_wp2
 go_ret2
 exact ⟨by first | rfl | (simp; done) | (simp [*]; done), by repeat (first | exact Drawn0.refl _ | apply Drawn0.step)⟩

/-! ### bits_Mul64: function 97 -/
def bits_Mul64.f (a0 : Int) (a1 : Int) : Option (Int × Int) := some (IntKind.u64.wrap ((IntKind.u64.wrap ((IntKind.u64.wrap ((a0 / 4294967296) * (a1 / 4294967296))) + ((IntKind.u64.wrap ((IntKind.u64.wrap ((a0 / 4294967296) * (Go.bits .and .u64 a1 4294967295))) + ((IntKind.u64.wrap ((Go.bits .and .u64 a0 4294967295) * (Go.bits .and .u64 a1 4294967295))) / 4294967296))) / 4294967296))) + ((IntKind.u64.wrap ((Go.bits .and .u64 (IntKind.u64.wrap ((IntKind.u64.wrap ((a0 / 4294967296) * (Go.bits .and .u64 a1 4294967295))) + ((IntKind.u64.wrap ((Go.bits .and .u64 a0 4294967295) * (Go.bits .and .u64 a1 4294967295))) / 4294967296))) 4294967295) + (IntKind.u64.wrap ((Go.bits .and .u64 a0 4294967295) * (a1 / 4294967296))))) / 4294967296)), IntKind.u64.wrap (a0 * a1))
set_option maxHeartbeats 8000000 in
set_option maxRecDepth 100000 in
theorem bits_Mul64.calls (a0 : Int) (a1 : Int) (r1 : Int) (r2 : Int) (w : World) (h : bits_Mul64.f a0 a1 = some (r1, r2)) :
  Calls Try.prog 97 #[.int .u64 a0, .int .u64 a1] w fun e w' => e = .returned (.tuple #[.int .u64 r1, .int .u64 r2]) ∧ Drawn0 w w' := by
 have H : (some (IntKind.u64.wrap ((IntKind.u64.wrap ((IntKind.u64.wrap ((a0 / 4294967296) * (a1 / 4294967296))) + ((IntKind.u64.wrap ((IntKind.u64.wrap ((a0 / 4294967296) * (Go.bits .and .u64 a1 4294967295))) + ((IntKind.u64.wrap ((Go.bits .and .u64 a0 4294967295) * (Go.bits .and .u64 a1 4294967295))) / 4294967296))) / 4294967296))) + ((IntKind.u64.wrap ((Go.bits .and .u64 (IntKind.u64.wrap ((IntKind.u64.wrap ((a0 / 4294967296) * (Go.bits .and .u64 a1 4294967295))) + ((IntKind.u64.wrap ((Go.bits .and .u64 a0 4294967295) * (Go.bits .and .u64 a1 4294967295))) / 4294967296))) 4294967295) + (IntKind.u64.wrap ((Go.bits .and .u64 a0 4294967295) * (a1 / 4294967296))))) / 4294967296)), IntKind.u64.wrap (a0 * a1))) = some (r1, r2) := h
 clear h
 simp only [Option.some.injEq, Prod.mk.injEq] at H
 obtain ⟨rfl, rfl⟩ := H
 go_enter Try.func97, Try.ntmps97
 go_wp2
 go_ret2
 exact ⟨by first | rfl | (simp; done) | (simp [*]; done), by repeat (first | exact Drawn0.refl _ | apply Drawn0.step)⟩

/-! ### bits_Mul: function 83 -/
def bits_Mul.f (a0 : Int) (a1 : Int) : Option (Int × Int) := (bits_Mul64.f a0 a1).bind fun bt145 => (some (bt145.1, bt145.2))
set_option maxHeartbeats 8000000 in
set_option maxRecDepth 100000 in
theorem bits_Mul.calls (a0 : Int) (a1 : Int) (r1 : Int) (r2 : Int) (w : World) (h : bits_Mul.f a0 a1 = some (r1, r2)) :
  Calls Try.prog 83 #[.int .u64 a0, .int .u64 a1] w fun e w' => e = .returned (.tuple #[.int .u64 r1, .int .u64 r2]) ∧ Drawn0 w w' := by
 have H : ((bits_Mul64.f a0 a1).bind fun bt145 => (some (bt145.1, bt145.2))) = some (r1, r2) := h
 clear h
 replace H := Option.bind_eq_some_iff.mp H
 obtain ⟨⟨t145, t146⟩, A30, H⟩ := H
 replace H : (some (t145, t146)) = some (r1, r2) := H
 have A3 := Aside0.mk A30
 clear A30
 simp only [Option.some.injEq, Prod.mk.injEq] at H
 obtain ⟨rfl, rfl⟩ := H
 go_enter Try.func83, Try.ntmps83
 go_wp2_with (first | ((with_reducible refine gate_callee (f := 97) rfl ?_); refine gl (some 25) Try.func97 #[.int .u64 a0, .int .u64 a1] ?_; (with_reducible refine (bits_Mul64.calls a0 a1 t145 t146 _ A3.out).mono ?_); rintro e w' ⟨rfl, ⟨nd, rfl⟩⟩; refine ⟨_, rfl, ?_⟩))
 go_ret2
 exact ⟨by first | rfl | (simp; done) | (simp [*]; done), by repeat (first | exact Drawn0.refl _ | apply Drawn0.step)⟩

/-! ### stringslite_HasPrefix: function 98 -/
def stringslite_HasPrefix.f (a0 : ByteArray) (a1 : ByteArray) : Option (Bool) := if (a0.size : Int) ≥ (a1.size : Int) then (if 0 ≤ (a1.size : Int) then (if (a1.size : Int) ≤ (a0.size : Int) then (some ((a0.extract 0 ((a1.size : Int) : Int).toNat).toList == a1.toList)) else (none)) else (none)) else (some false)
set_option maxHeartbeats 8000000 in
set_option maxRecDepth 100000 in
theorem stringslite_HasPrefix.calls (a0 : ByteArray) (a1 : ByteArray) (r : Bool) (w : World) (h : stringslite_HasPrefix.f a0 a1 = some r) :
  Calls Try.prog 98 #[.string a0, .string a1] w fun e w' => e = .returned (.bool r) ∧ Drawn0 w w' := by
 have H : (if (a0.size : Int) ≥ (a1.size : Int) then (if 0 ≤ (a1.size : Int) then (if (a1.size : Int) ≤ (a0.size : Int) then (some ((a0.extract 0 ((a1.size : Int) : Int).toNat).toList == a1.toList)) else (none)) else (none)) else (some false)) = some r := h
 clear h
 by_cases c3 : (a0.size : Int) ≥ (a1.size : Int)
 ·rw [if_pos c3] at H
  have c3b0 : decide ((a1.size : Int) ≤ (a0.size : Int)) = true := decide_eq_true c3
  have c3b1 : decide (a1.size ≤ a0.size) = true := decide_eq_true (Int.ofNat_le.mp c3)
  clear c3
  by_cases c4 : 0 ≤ (a1.size : Int)
  ·rw [if_pos c4] at H
   have c4b0 := eq_true c4
   have c4b1 : decide (0 ≤ (a1.size : Int)) = true := decide_eq_true c4
   clear c4
   by_cases c5 : (a1.size : Int) ≤ (a0.size : Int)
   ·rw [if_pos c5] at H
    have c5b0 := eq_true c5
    have c5b1 : decide ((a1.size : Int) ≤ (a0.size : Int)) = true := decide_eq_true c5
    clear c5
    obtain rfl := Option.some.inj H
    go_enter Try.func98, Try.ntmps98
    go_wp2
    go_ret
    exact ⟨by first | rfl | (simp; done) | (simp [*]; done), by repeat (first | exact Drawn0.refl _ | apply Drawn0.step)⟩
   ·rw [if_neg c5] at H
    exact absurd H (by simp)
  ·rw [if_neg c4] at H
   exact absurd H (by simp)
 ·rw [if_neg c3] at H
  have c3b0 : decide ((a1.size : Int) ≤ (a0.size : Int)) = false := decide_eq_false c3
  have c3b1 : decide (a1.size ≤ a0.size) = false := decide_eq_false (fun h => c3 (Int.ofNat_le.mpr h))
  clear c3
  obtain rfl := Option.some.inj H
  go_enter Try.func98, Try.ntmps98
  go_wp2
  go_ret
  exact ⟨by first | rfl | (simp; done) | (simp [*]; done), by repeat (first | exact Drawn0.refl _ | apply Drawn0.step)⟩

/-! ### strings_HasPrefix: function 84 -/
def strings_HasPrefix.f (a0 : ByteArray) (a1 : ByteArray) : Option (Bool) := (stringslite_HasPrefix.f a0 a1).bind fun t147 => (some t147)
set_option maxHeartbeats 8000000 in
set_option maxRecDepth 100000 in
theorem strings_HasPrefix.calls (a0 : ByteArray) (a1 : ByteArray) (r : Bool) (w : World) (h : strings_HasPrefix.f a0 a1 = some r) :
  Calls Try.prog 84 #[.string a0, .string a1] w fun e w' => e = .returned (.bool r) ∧ Drawn0 w w' := by
 have H : ((stringslite_HasPrefix.f a0 a1).bind fun t147 => (some t147)) = some r := h
 clear h
 replace H := Option.bind_eq_some_iff.mp H
 obtain ⟨t147, A30, H⟩ := H
 replace H : (some t147) = some r := H
 have A3 := Aside0.mk A30
 clear A30
 obtain rfl := Option.some.inj H
 go_enter Try.func84, Try.ntmps84
 go_wp2_with (first | ((with_reducible refine gate_callee (f := 98) rfl ?_); refine gl (some 7) Try.func98 #[.string a0, .string a1] ?_; (with_reducible refine (stringslite_HasPrefix.calls a0 a1 t147 _ A3.out).mono ?_); rintro e w' ⟨rfl, ⟨nd, rfl⟩⟩; refine ⟨_, rfl, ?_⟩))
 go_ret
 exact ⟨by first | rfl | (simp; done) | (simp [*]; done), by repeat (first | exact Drawn0.refl _ | apply Drawn0.step)⟩

-- NOT PRINTED: function 106 (abi_NoEscape)

-- NOT PRINTED: function 99 (strings_Builder_copyCheck)

-- NOT PRINTED: function 107 (bytealg_MakeNoZero)

-- NOT PRINTED: function 100 (strings_Builder_grow)

-- NOT PRINTED: function 85 (strings_Builder_Grow)

-- NOT PRINTED: function 86 (strings_Builder_WriteString)

-- NOT PRINTED: function 87 (strings_Builder_Len)

-- NOT PRINTED: function 88 (strings_Builder_String)

/-! ### strings_Repeat: function 68 -/
def strings_Repeat.f (a0 : ByteArray) (a1 : Int) : Option ByteArray := if 0 ≤ a1 ∧ a1 ≤ 1000000 ∧ a0.size ≤ 1000000 then some ⟨(Lib.repeatL a0.data.toList a1.toNat).toArray⟩ else none
theorem rep_extra : Builder.Extra Try.prog Try.lays105_ren := {
 sizeBuilder := by kernel_rfl
 liesBuilder := by kernel_rfl
 t5 := Try.lays105.t5
 a5 := Try.lays105.a5
 z5 := Try.lays105.z5
 v5 := Try.lays105.v5
 infoByte := by kernel_rfl
 cellsByte := by kernel_rfl
 sizeByte := by kernel_rfl
 neB5 := by decide }
theorem strings_Repeat.calls (a0 : ByteArray) (a1 : Int) (r : ByteArray) (w : World) (h : strings_Repeat.f a0 a1 = some r) :
  Calls Try.prog 68 #[.string a0, .int .i64 a1] w fun e w' => e = .returned (.string r) ∧ Below w.heap.size w w' := by
 unfold strings_Repeat.f at h
 by_cases c : 0 ≤ a1 ∧ a1 ≤ 1000000 ∧ a0.size ≤ 1000000
 ·rw [if_pos c] at h
  obtain rfl := Option.some.inj h
  obtain ⟨m, rfl⟩ := Int.eq_ofNat_of_zero_le c.1
  have hm : m ≤ 1000000 := by omega
  have hp : a0.size * m ≤ 1000000 * 1000000 := Nat.mul_le_mul c.2.2 hm
  exact Any.strings_Repeat Try.lays105 rep_extra a0 m w (by omega) (by omega)
 ·rw [if_neg c] at h
  cases h

/-! ### impl_DiskNew: function 34 -/
def impl_DiskNew.l0 : Nat → Int → Int → List ByteArray → Option (List ByteArray × (List (S67)) × Bool)
 | 0, _, _, _ => none
 | k + 1, x10, x11, x151000 => if x11 < x10 then ((strings_Repeat.f (⟨#[0]⟩ : ByteArray) 32).bind fun t151 => (if x151000.length < 8796093022208 then (impl_DiskNew.l0 k x10 (wrap64 (x11 + 1)) (x151000 ++ [t151])) else (none))) else (some (x151000, ([] : List (S67)), true))
def impl_DiskNew.f (k : Nat) (a0 : Int) : Option (List ByteArray × (List (S67)) × Bool) := (impl_in.f a0 1 100).bind fun t149 => (if t149 = true then (impl_DiskNew.l0 k a0 0 ([] : List ByteArray)) else (some (([] : List ByteArray), ([] : List (S67)), false)))
theorem impl_DiskNew.mono_l : ∀ k, (∀ y0 y1 y2, LeO (impl_DiskNew.l0 k y0 y1 y2) (impl_DiskNew.l0 (k + 1) y0 y1 y2))
 | 0 => fun _ _ _ r h => by simp [impl_DiskNew.l0] at h
 | k + 1 => by
  have ih0 := impl_DiskNew.mono_l k
  ·intro y0 y1 y2
   unfold impl_DiskNew.l0
   repeat' first
   | (with_reducible exact ih0 _ _ _)
   | (with_reducible exact LeO.refl _)
   | (with_reducible exact LeO.none _)
   | (with_reducible refine LeO.ite ?_ ?_)
   | (with_reducible refine LeO.bind ?_ (fun _ => ?_))
   | exact ih0 _ _ _
   | exact LeO.none _
   | refine LeO.ite ?_ ?_
   | refine LeO.bind ?_ (fun _ => ?_)
theorem impl_DiskNew.mono : ∀ a0 k, LeO (impl_DiskNew.f k a0) (impl_DiskNew.f (k + 1) a0) := by
 intro a0 k
 have ih0 := impl_DiskNew.mono_l k
 unfold impl_DiskNew.f
 repeat' first
   | (with_reducible exact ih0 _ _ _)
   | (with_reducible exact LeO.refl _)
   | (with_reducible exact LeO.none _)
   | (with_reducible refine LeO.ite ?_ ?_)
   | (with_reducible refine LeO.bind ?_ (fun _ => ?_))
   | exact ih0 _ _ _
   | exact LeO.none _
   | refine LeO.ite ?_ ?_
   | refine LeO.bind ?_ (fun _ => ?_)
set_option maxHeartbeats 8000000 in
set_option maxRecDepth 100000 in
theorem impl_DiskNew.calls (k : Nat) (a0 : Int) (r1 : List ByteArray) (r2 : List (S67)) (r3 : Bool) (w : World) (h : impl_DiskNew.f k a0 = some (r1, r2, r3)) :
  Calls Try.prog 34 #[.int .i64 a0] w fun e w' => ∃ v0_ v1_ : Value, e = .returned (.tuple #[.agg #[v0_, v1_], .bool r3]) ∧ Kd.R Kd.string 9 w' w.heap.size (fun _ => True) v0_ r1 ∧ Kd.R k67 67 w' w.heap.size (fun _ => True) v1_ r2 ∧ Below w.heap.size w w' := by
 have hu30 := Try.underlying30
 have HB := ak (Below.refl w.heap.size w)
 have H : ((impl_in.f a0 1 100).bind fun t149 => (if t149 = true then (impl_DiskNew.l0 k a0 0 ([] : List ByteArray)) else (some (([] : List ByteArray), ([] : List (S67)), false)))) = some (r1, r2, r3) := h
 clear h
 replace H := Option.bind_eq_some_iff.mp H
 obtain ⟨t149, A20, H⟩ := H
 replace H : (if t149 = true then (impl_DiskNew.l0 k a0 0 ([] : List ByteArray)) else (some (([] : List ByteArray), ([] : List (S67)), false))) = some (r1, r2, r3) := H
 have A2 := Aside0.mk A20
 clear A20
 by_cases c3 : t149 = true
 ·subst c3
  have H1 : (impl_DiskNew.l0 k a0 0 ([] : List ByteArray)) = some (r1, r2, r3) := by rw [if_pos rfl] at H; exact H
  clear H
  have H := H1
  clear H1
  have H' := Aside0.mk H
  clear H
  go_enter Try.func34, Try.ntmps34
  go_wp2_with (first | ((with_reducible refine gate_dst (N := 2) rfl ?_); refine bx 2 #[.slice none 0 0, .slice none 0 0] 30 ?_; intro gb148 hg w4 hbox hb; replace BK148 := ak (hbox); replace GW148 := ak (bz hg (lG HB)); replace GE148 := ak (bz hg (lG HB)); replace HB := lB HB hb; clear hb hbox hg) | ((with_reducible refine gate_callee (f := 52) rfl ?_); refine gl (some 6) Try.func52 #[.int .i64 a0, .int .i64 1, .int .i64 100] ?_; (with_reducible refine (impl_in.calls a0 1 100 true _ A2.out).mono ?_); rintro e w' ⟨rfl, ⟨nd, rfl⟩⟩; refine ⟨_, rfl, ?_⟩; (try (rw [drewN_self w4]; generalize hq_ : World.drewN w4 _ = w4; have n0_ : Aside0 (w4.heap[gb148]? = some (.cells #[.slice none 0 0, .slice none 0 0] 30 (0, 0))) := ⟨by rw [← hq_]; exact (bG BK148)⟩; have n1_ : Aside0 (Below w.heap.size w w4) := ⟨by rw [← hq_]; exact (lT HB (gC GE148 gN))⟩; clear BK148 HB hq_; have BK148 := n0_; have HB := n1_; clear n0_ n1_)); (try (have hy148_0 : w4.cell? ⟨gb148, 0, none⟩ = some (.slice none 0 0) := bc BK148 0; have hv148_0 := blk_frozen BK148.out 0; have hy148_1 : w4.cell? ⟨gb148, 1, none⟩ = some (.slice none 0 0) := bc BK148 1; have hv148_1 := blk_frozen BK148.out 1))) | ((with_reducible refine gate_dst (N := 4) rfl ?_); refine bx 4 #[.slice none 0 0, .slice none 0 0] 30 ?_; intro gb150 hg w5 hbox hb; replace BK150 := ak (hbox); replace GW150 := ak (bz hg (lT HB (gC GE148 gN))); replace GE150 := ak (bz hg (lT HB (gC GE148 gN))); replace HB := ak (below_step (lT HB (gC GE148 gN)) hb); replace NB148_150 := ak (nl hg (bG BK148)); replace NB150_148 := ak (ng hg (bG BK148)); replace BK148 := bB BK148 hb; clear hb hbox hg; have hnb6 := NB150_148.out; have hnc6 := NB148_150.out; obtain ⟨hcz7_0, hcz7_1, hfz7_0, hfz7_1⟩ := bC2 BK150))
  go_loopg [11] k (fun kq v11 w' => ∃ (x11_1 : Int) (x151000_1 : List ByteArray) (u151000 : Value), v11 = .int .i64 x11_1 ∧ Aside0 (impl_DiskNew.l0 kq a0 x11_1 x151000_1 = some (r1, r2, r3)) ∧ Aside0 (kq ≤ k) ∧ Aside0 (Kd.R Kd.string 9 w' w.heap.size (fun _ => True) u151000 x151000_1) ∧ Aside0 (w'.heap[gb148]? = some (.cells #[(.slice none 0 0), (.slice none 0 0)] 30 (0, 0))) ∧ Aside0 (w'.heap[gb150]? = some (.cells #[u151000, (.slice none 0 0)] 30 (0, 0))) ∧ Aside0 (Below w.heap.size w w'))
  case atStart => exact ⟨(0), (([] : List ByteArray)), (.slice none 0 0), (by first | rfl | (simp; done) | (simp [*]; done)), H', ⟨Nat.le_refl _⟩, ⟨nil_⟩, ⟨by (with_reducible repeat (first | refine blk_drewN ?_ _ | refine blk_drew ?_ | refine blk_alloc ?_ _)); refine blk_far ?_ NB148_150.out _; (with_reducible repeat (first | refine blk_drewN ?_ _ | refine blk_drew ?_ | refine blk_alloc ?_ _)); refine blk_far ?_ NB148_150.out _; (with_reducible repeat (first | refine blk_drewN ?_ _ | refine blk_drew ?_ | refine blk_alloc ?_ _)); exact BK148.out⟩, ⟨bW BK150⟩, ⟨by exact lT HB (gC GE148 (gC GE150 gN))⟩⟩
  case round =>
   clear H'
   try clear p2
   try clear c3
   try clear c5
   try clear c6
   try clear hcz7_0
   try clear hcz7_1
   try clear hfz7_0
   try clear hfz7_1
   obtain ⟨x11_1, x151000_1, u151000, rfl, HA, HK1, HO_151000, BK148, BK150, HB⟩ := hrel
   cases gk with
   | zero => exact absurd HA.out (by simp [impl_DiskNew.l0])
   | succ k1 =>
    have H := HA.out
    clear HA
    simp only [impl_DiskNew.l0] at H
    by_cases c8 : x11_1 < a0
    ·rw [if_pos c8] at H
     have c8b0 : decide (x11_1 < a0) = true := decide_eq_true c8
     clear c8
     replace H := Option.bind_eq_some_iff.mp H
     obtain ⟨t151, A90, H⟩ := H
     replace H : (if x151000_1.length < 8796093022208 then (impl_DiskNew.l0 k1 a0 (wrap64 (x11_1 + 1)) (x151000_1 ++ [t151])) else (none)) = some (r1, r2, r3) := H
     have A9 := Aside0.mk A90
     clear A90
     by_cases c10 : x151000_1.length < 8796093022208
     ·rw [if_pos c10] at H
      have LMc10 := Aside0.mk c10
      clear c10
      obtain ⟨y152, hy152⟩ : ∃ y_ : List ByteArray, y_ = (x151000_1 ++ [t151]) := ⟨_, rfl⟩
      replace H : (impl_DiskNew.l0 k1 a0 (wrap64 (x11_1 + 1)) y152) = some (r1, r2, r3) := by first | (rw [hy152]; with_reducible exact H) | (have H2_ := (Option.bind_some _ _).symm.trans H; rw [hy152]; with_reducible exact H2_) | (have H2_ := (Option.bind_some _ _).symm.trans H; with_reducible exact H2_) | with_reducible exact H | (rw [hy152]; exact H) | exact H
      have Ny152 := Aside0.mk hy152
      clear hy152
      have H' := Aside0.mk H
      clear H
      try go_wp2
      replace HO_151000 := ak (Kd.R_drew HO_151000.out)
      replace BK148 := ak (blk_drew BK148.out)
      replace BK150 := ak (blk_drew BK150.out)
      replace HB := ak (below_drew1 HB.out)
      refine start_ (n := 7) (S := fun w' => w'.cell? ⟨gb150, 0, none⟩ = some (u151000) ∧ w'.cell? ⟨gb150, 1, none⟩ = some (.slice none 0 0)) (ds := [6]) #[f_,f_,f_,f_,f_,f_,f_] (by kernel_rfl) rfl rfl ⟨bc BK150 0, bc BK150 1⟩ (fun hHeld => ?_)
      generalize wr.drew = w11 at HO_151000 BK148 BK150 HB hHeld ⊢
      refine pure_ (i := 0) (N := some 13) (v := ?_) (a' := ?_) #[t_,f_,f_,f_,f_,f_,f_] rfl rfl (by kernel_rfl) (fun _ _ _ h => h) (Or.inl ⟨by rfl, ?_⟩) ?_ ?_
      rotate_left
      ·intro w'
       go_simp
       with_reducible rfl
      rotate_left
      ·simp only [Act.put, List.setIfInBounds_toArray, List.set_cons_zero, List.set_cons_succ, i64_w, i32_w]
       rfl
      refine take_ (i := 1) (N := some 14) (v := ?_) (a' := ?_) #[t_,t_,f_,f_,f_,f_,f_] rfl rfl (by kernel_rfl) (fun _ _ _ h => h) (Or.inl ⟨by rfl, ?_⟩) hHeld ?_ ?_
      rotate_left
      ·rintro w' ⟨s0, s1⟩
       go_simp
       with_reducible rfl
      rotate_left
      ·simp only [Act.put, List.setIfInBounds_toArray, List.set_cons_zero, List.set_cons_succ, i64_w, i32_w]
       rfl
      refine one_ (i := 2) (N := some 15) #[t_,t_,t_,f_,f_,f_,f_] rfl rfl (by kernel_rfl) (by decide) (fun K hK => ?_)
      refine goes_ Try.func68 (by kernel_rfl) rfl #[.string (⟨#[0]⟩ : ByteArray), .int .i64 32] (by rfl) rfl rfl (by (try simp only [List.map_toArray, List.map_cons, List.map_nil]); first | done | rfl | (simp only [List.length_drop, List.length_take]; rfl)) ?_
      with_reducible refine (strings_Repeat.calls (⟨#[0]⟩ : ByteArray) 32 t151 _ A9.out).mono ?_
      rintro e w12 ⟨rfl, hb⟩
      refine ⟨_, rfl, ?_⟩
      replace HO_151000 := rB HO_151000 hb
      replace BK148 := bB BK148 hb
      replace BK150 := bB BK150 hb
      replace HB := ak (below_step (lT HB (gC GE148 (gC GE150 gN))) hb)
      (try clear hb)
      (try clear hb2)
      (try clear hk)
      (try clear hi)
      refine hK.out _ _ ⟨bc BK150 0, bc BK150 1⟩ (fun hHeld => ?_)
      clear hK K
      refine nm ?_
      refine one_ (i := 3) (N := some 16) #[t_,t_,t_,t_,f_,f_,f_] rfl rfl (by kernel_rfl) (by decide) (fun K hK => ?_)
      refine value_ (w1 := ?_) (v := ?_) (by rfl) rfl ?_ ?_
      rotate_left 2
      ·go_simp
       constructor
       ·rfl
       ·rfl
      refine hK.out _ _ ⟨(blk_cell (blk_alloc BK150.out _) 0).trans rfl, (blk_cell (blk_alloc BK150.out _) 1).trans rfl⟩ (fun hHeld => ?_)
      clear hK K
      refine nm ?_
      refine one_ (i := 4) (N := some 17) #[t_,t_,t_,t_,t_,f_,f_] rfl rfl (by kernel_rfl) (by decide) (fun K hK => ?_)
      refine Kd.R_append_step Kd.string (w0 := w) w.heap.size (by rfl) (.tmp 14) (.tmp 16) 22 9 (.string ⟨#[]⟩) 16 rfl Try.underlying22 info9 rfl (by decide) (by omega) u151000 x151000_1 t151 [.string t151] (fun _ => True) (fun _ => False) rfl rfl ?aP (fun _ hk => hk.elim) ?aF ?aO ?aB ?aS ?aL ?_
      (case aP => exact rfl)
      (case aB => exact (lT HB (gC GE148 (gC GE150 gN))))
      (case aF => exact (fun _ _ => trivial))
      (case aO => exact (rG HO_151000))
      (case aS => exact (below_size (lT HB (gC GE148 (gC GE150 gN)))))
      (case aL => have := LMc10.out; omega)
      intro v153 w13 ho hb hg hat
      rw [← Ny152.out] at ho
      have n0_ := ak (blk_grown (g := gb148) (o := .cells #[.slice none 0 0, .slice none 0 0] 30 (0, 0)) (bG BK148) hg (Kd.R_ne HO_151000.out BK148.out (by decide)))
      have n1_ := ak (blk_grown (g := gb150) (o := .cells #[u151000, .slice none 0 0] 30 (0, 0)) (bG BK150) hg (Kd.R_ne HO_151000.out BK150.out (by decide)))
      have n2_ := ak (hb)
      have n3_ := ak (ho)
      clear BK148
      clear BK150
      clear HB
      clear HO_151000
      have BK148 := n0_
      have BK150 := n1_
      have HB := n2_
      have HO154 := n3_
      clear n0_ n1_ n2_ n3_
      clear ho hb hg hat
      obtain ⟨Ao14, co14, eo14⟩ := Kd.R_slice HO154.out
      (first | subst eo14 | (injection eo14 with f1_ f2_ f3_; have f4_ := f1_.symm; have f5_ := f3_.symm; clear f1_ f2_ f3_; subst f4_; subst f5_))
      refine hK.out _ _ ⟨bc BK150 0, bc BK150 1⟩ (fun hHeld => ?_)
      clear hK K
      refine nm ?_
      refine pure_ (i := 5) (N := some 18) (v := ?_) (a' := ?_) #[t_,t_,t_,t_,t_,t_,f_] rfl rfl (by kernel_rfl) (fun _ _ _ h => h) (Or.inl ⟨by rfl, ?_⟩) ?_ ?_
      rotate_left
      ·intro w'
       go_simp
       with_reducible rfl
      rotate_left
      ·simp only [Act.put, List.setIfInBounds_toArray, List.set_cons_zero, List.set_cons_succ, i64_w, i32_w]
       rfl
      refine last_ (i := 6) (N := none) #[t_,t_,t_,t_,t_,t_,t_] rfl rfl (by kernel_rfl) (by decide) (fun K hK => ?_)
      have hs15 : w13.cell? ⟨gb150, 0, none⟩ = some (u151000) := bc BK150 0
      have hfs15 := blk_frozen BK150.out 0
      have hns15_0 := NB148_150.out
      have hms15_0 := NB150_148.out
      refine skip_ (w1 := ?_) (by rfl) rfl ?_ ?_
      rotate_left
      ·go_simp
       rfl
      refine hK.out _ _ ?_
      clear hK K
      refine done_ (by kernel_rfl) ?_
      try go_wp2
      go_roundg k1
      case measure => have := HK1.out; omega
      case rel => exact ⟨(wrap64 (x11_1 + 1)), (y152), (.slice Ao14 y152.length co14), (by first | rfl | (simp; done) | (simp [*]; done)), H', ⟨by have := HK1.out; omega⟩, ⟨by exact Kd.R_mono (rT HO154 BK150 (by decide)) (fun _ hk => trivial)⟩, ⟨by (with_reducible repeat (first | refine blk_drewN ?_ _ | refine blk_drew ?_ | refine blk_alloc ?_ _)); refine blk_far ?_ NB148_150.out _; (with_reducible repeat (first | refine blk_drewN ?_ _ | refine blk_drew ?_ | refine blk_alloc ?_ _)); exact BK148.out⟩, ⟨bW BK150⟩, ⟨by exact lT HB (gC GE148 (gC GE150 gN))⟩⟩
     ·rw [if_neg c10] at H
      exact absurd H (by simp)
    ·rw [if_neg c8] at H
     have c8b0 : decide (x11_1 < a0) = false := decide_eq_false c8
     clear c8
     simp only [Option.some.injEq, Prod.mk.injEq] at H
     obtain ⟨rfl, rfl, rfl⟩ := H
     have hnb16 := NB150_148.out
     have hnc16 := NB148_150.out
     have hcz17_0 : wr.cell? ⟨gb150, 0, none⟩ = some (u151000) := bc BK150 0
     have hcz17_1 : wr.cell? ⟨gb150, 1, none⟩ = some (.slice none 0 0) := bc BK150 1
     have hfz17_0 := blk_frozen BK150.out 0
     have hfz17_1 := blk_frozen BK150.out 1
     obtain ⟨Ao18, co18, eo18⟩ := Kd.R_slice HO_151000.out
     subst eo18
     have hcz19_0 : wr.cell? ⟨gb148, 0, none⟩ = some (.slice none 0 0) := bc BK148 0
     have hcz19_1 : wr.cell? ⟨gb148, 1, none⟩ = some (.slice none 0 0) := bc BK148 1
     have hfz19_0 := blk_frozen BK148.out 0
     have hfz19_1 := blk_frozen BK148.out 1
     go_wp2
     refine bodyPost_ret (results_ct rfl _ _ gb148 30 #[.slice Ao18 x151000_1.length co18, .slice none 0 0] (0, 0) _ rfl (bW BK148) Try.underlying30 rfl (by kernel_rfl)) rfl ?_
     exact ⟨_, _, ew, by exact Kd.R_mono (rT HO_151000 BK148 (by decide)) (fun _ hk => trivial), nil_, by exact lT HB (gC GE148 (gC GE150 gN))⟩
 ·replace c3 := Bool.eq_false_iff.mpr c3
  subst c3
  have H1 : (some (([] : List ByteArray), ([] : List (S67)), false)) = some (r1, r2, r3) := by rw [if_neg (show ¬ (false = true) by decide)] at H; exact H
  clear H
  have H := H1
  clear H1
  simp only [Option.some.injEq, Prod.mk.injEq] at H
  obtain ⟨rfl, rfl, rfl⟩ := H
  go_enter Try.func34, Try.ntmps34
  go_wp2_with (first | ((with_reducible refine gate_dst (N := 2) rfl ?_); refine bx 2 #[.slice none 0 0, .slice none 0 0] 30 ?_; intro gb148 hg w20 hbox hb; replace BK148 := ak (hbox); replace GW148 := ak (bz hg (lG HB)); replace GE148 := ak (bz hg (lG HB)); replace HB := lB HB hb; clear hb hbox hg) | ((with_reducible refine gate_callee (f := 52) rfl ?_); refine gl (some 6) Try.func52 #[.int .i64 a0, .int .i64 1, .int .i64 100] ?_; (with_reducible refine (impl_in.calls a0 1 100 false _ A2.out).mono ?_); rintro e w' ⟨rfl, ⟨nd, rfl⟩⟩; refine ⟨_, rfl, ?_⟩; (try (rw [drewN_self w20]; generalize hq_ : World.drewN w20 _ = w20; have n0_ : Aside0 (w20.heap[gb148]? = some (.cells #[.slice none 0 0, .slice none 0 0] 30 (0, 0))) := ⟨by rw [← hq_]; exact (bG BK148)⟩; have n1_ : Aside0 (Below w.heap.size w w20) := ⟨by rw [← hq_]; exact (lT HB (gC GE148 gN))⟩; clear BK148 HB hq_; have BK148 := n0_; have HB := n1_; clear n0_ n1_)); (try (have hy148_0 : w20.cell? ⟨gb148, 0, none⟩ = some (.slice none 0 0) := bc BK148 0; have hv148_0 := blk_frozen BK148.out 0; have hy148_1 : w20.cell? ⟨gb148, 1, none⟩ = some (.slice none 0 0) := bc BK148 1; have hv148_1 := blk_frozen BK148.out 1)); obtain ⟨hcz21_0, hcz21_1, hfz21_0, hfz21_1⟩ := bC2 BK148))
  refine bodyPost_ret (results_ct rfl _ _ gb148 30 #[.slice none 0 0, .slice none 0 0] (0, 0) _ rfl (bW BK148) Try.underlying30 rfl (by kernel_rfl)) rfl ?_
  exact ⟨_, _, ew, nil_, nil_, by exact lT HB (gC GE148 gN)⟩

end Go.Proofs.Ytdnjjdmlmfoljaa.PFnExactDiskNew
