-- Written for this claim by a program of mine (a turned copy of the kit's print): functions as plain Lean, and their contracts. Lean checks it.
import Derived.Test.YtjpngldnkgofaaaPFnSegmentsx0
import Derived.Test.YtjpngldnkgofaaaPFnSegmentsx8
import Derived.Test.YtjpngldnkgofaaaVFnSegments1
namespace Go.Proofs.Ytjpngldnkgofaaa.PFnSegments
open Go.RowKit Go.Proofs.YtjpngldnkgofaaaW.PrintWords Go.Proofs.YtjpngldnkgofaaaW.PrintLast Go.Proofs.YtjpngldnkgofaaaW.PrintMore
attribute [local go_sem] max2_int min2_int max_two min_two max_three min_three max_four min_four   -- for this text's walks alone
set_option linter.unusedVariables false
set_option linter.unusedSimpArgs false

/-! ### impl_cloneDisk: function 48 -/
def impl_cloneDisk.f (l0_0 : List ByteArray) (l0_1 : List (S63)) : Option (List ByteArray × (List (S63))) := (slices_Clone_string_string.f l0_0).bind fun t378 => ((impl_Write_75.f l0_1).bind fun t381 => (some (t378, t381)))
def impl_cloneDisk.T1 : Bool × List (List Nat × List Nat) := (true, [([], []), ([0], [0]), ([1], [1]), ([], []), ([3], [3]), ([4, 2], [4]), ([2, 5], [2, 5]), ([6, 5, 0, 1, 2, 3, 4, 5, 6], [6])])
def impl_cloneDisk.B1 : List Nat := [0, 1, 3, 0, 8, 31, 63, 127]
theorem impl_cloneDisk.tab1 : rtab .any (opsOf Try.f48 1) = impl_cloneDisk.T1 := by kernel_rfl
theorem impl_cloneDisk.bits1 : waitsOk impl_cloneDisk.T1.2 impl_cloneDisk.B1 = true := by kernel_rfl
set_option maxHeartbeats 8000000 in
set_option maxRecDepth 100000 in
theorem impl_cloneDisk.calls (A0_0 : Option Addr) (c0_0 : Nat) (l0_0 : List ByteArray) (A0_1 : Option Addr) (c0_1 : Nat) (l0_1 : List (S63)) (r1 : List ByteArray) (r2 : List (S63)) (w : World) (hr0_0 : Kd.C Kd.string w A0_0 l0_0.length l0_0) (hc0_0 : l0_0.length ≤ c0_0) (hr0_1 : Kd.C k63 w A0_1 l0_1.length l0_1) (hc0_1 : l0_1.length ≤ c0_1) (h : impl_cloneDisk.f l0_0 l0_1 = some (r1, r2)) :
  Calls Try.prog 48 #[.agg #[.slice A0_0 l0_0.length c0_0, .slice A0_1 l0_1.length c0_1]] w fun e w' => ∃ v0_ v1_ : Value, e = .returned (.agg #[v0_, v1_]) ∧ Kd.R Kd.string 9 w' w.heap.size (fun _ => True) v0_ r1 ∧ Kd.R k63 63 w' w.heap.size (fun _ => True) v1_ r2 ∧ Below w.heap.size w w' := by
 have hu27 := Try.underlying27
 have HR0_0 := Aside0.mk hr0_0
 have HC0_0 := Aside0.mk hc0_0
 clear hr0_0 hc0_0
 have HR0_1 := Aside0.mk hr0_1
 have HC0_1 := Aside0.mk hc0_1
 clear hr0_1 hc0_1
 have HB := ak (Below.refl w.heap.size w)
 have H : ((slices_Clone_string_string.f l0_0).bind fun t378 => ((impl_Write_75.f l0_1).bind fun t381 => (some (t378, t381)))) = some (r1, r2) := h
 clear h
 replace H := Option.bind_eq_some_iff.mp H
 obtain ⟨t378, A20, H⟩ := H
 replace H : ((impl_Write_75.f l0_1).bind fun t381 => (some (t378, t381))) = some (r1, r2) := H
 have A2 := Aside0.mk A20
 clear A20
 replace H := Option.bind_eq_some_iff.mp H
 obtain ⟨t381, A30, H⟩ := H
 replace H : (some (t378, t381)) = some (r1, r2) := H
 have A3 := Aside0.mk A30
 clear A30
 simp only [Option.some.injEq, Prod.mk.injEq] at H
 obtain ⟨rfl, rfl⟩ := H
 go_enter Try.func48, Try.ntmps48
 try go_wp2_with (first | ((with_reducible refine gate_dst (N := 1) rfl ?_); refine bx 1 #[.slice A0_0 l0_0.length c0_0, .slice A0_1 l0_1.length c0_1] 27 ?_; intro gb376 hg w4 hbox hb; replace BK376 := ak (hbox); replace GW376 := ak (bz hg (lG HB)); replace GE376 := ak (bz hg (lG HB)); replace HB := lB HB hb; clear hb hbox hg) | ((with_reducible refine gate_dst (N := 2) rfl ?_); refine bx 2 #[.slice none 0 0, .slice none 0 0] 27 ?_; intro gb377 hg w5 hbox hb; replace BK377 := ak (hbox); replace GW377 := ak (bz hg (lT HB (gC GE376 gN))); replace GE377 := ak (bz hg (lT HB (gC GE376 gN))); replace HB := ak (below_step (lT HB (gC GE376 gN)) hb); replace NB376_377 := ak (nl hg (bG BK376)); replace NB377_376 := ak (ng hg (bG BK376)); replace BK376 := bB BK376 hb; clear hb hbox hg))
 replace BK376 := ak (blk_drew BK376.out)
 replace BK377 := ak (blk_drew BK377.out)
 replace HB := ak (below_drew1 HB.out)
 refine start_ (n := 8) (S := fun w' => w'.cell? ⟨gb376, 0, none⟩ = some (.slice A0_0 l0_0.length c0_0) ∧ w'.cell? ⟨gb376, 1, none⟩ = some (.slice A0_1 l0_1.length c0_1)) (ds := []) #[f_,f_,f_,f_,f_,f_,f_,f_] (by kernel_rfl) rfl rfl ⟨bc BK376 0, bc BK376 1⟩ (fun hHeld => ?_); refine with_tabW impl_cloneDisk.tab1 impl_cloneDisk.bits1 (fun HT_ HW_ => ?_)
 generalize w5.drew = w6 at BK376 BK377 HB hHeld ⊢
 refine pu 0 3 (fb 8 1) HT_ ?_
 refine pu 3 6 (fb 8 9) HT_ ?_
 refine tk 1 4 (fb 8 11) HT_ HW_ hHeld ?_
 refine tk 4 7 (fb 8 27) HT_ HW_ hHeld ?_
 refine on 2 (some 5) (fb 8 31) HT_ (fun K hK => ?_)
 refine goes_ Try.func74 (by kernel_rfl) rfl #[.slice A0_0 l0_0.length c0_0] (by rfl) rfl rfl (by (try simp only [List.map_toArray, List.map_cons, List.map_nil]); first | done | rfl | (simp only [List.length_drop, List.length_take]; rfl)) ?_
 with_reducible refine (slices_Clone_string_string.calls _ _ l0_0 t378 _ ?side1 ?side2 A2.out).mono ?_
 (case side1 => exact cG (Kd.C_below HR0_0.out HB.out))
 (case side2 => exact HC0_0.out)
 rintro e w7 ⟨v379, rfl, ho0, hb⟩
 refine ⟨_, rfl, ?_⟩
 replace HO380 := ak (Kd.R_lower ho0 (below_size (lT HB (gC GE376 (gC GE377 gN)))))
 replace BK376 := bB BK376 hb
 replace BK377 := bB BK377 hb
 replace HB := ak (below_step (lT HB (gC GE376 (gC GE377 gN))) hb)
 (try clear hb)
 (try clear hb2)
 (try clear hk)
 (try clear hi)
 (try clear ho0)
 refine hK.out _ _ ⟨bc BK376 0, bc BK376 1⟩ (fun hHeld => ?_)
 clear hK K
 refine nm ?_
 refine on 5 (some 8) (fb 8 63) HT_ (fun K hK => ?_)
 refine goes_ Try.func75 (by kernel_rfl) rfl #[.slice A0_1 l0_1.length c0_1] (by rfl) rfl rfl (by (try simp only [List.map_toArray, List.map_cons, List.map_nil]); first | done | rfl | (simp only [List.length_drop, List.length_take]; rfl)) ?_
 with_reducible refine (impl_Write_75.calls _ _ l0_1 t381 _ ?side1 ?side2 A3.out).mono ?_
 (case side1 => exact cG (Kd.C_below HR0_1.out HB.out))
 (case side2 => exact HC0_1.out)
 rintro e w8 ⟨v382, rfl, ho0, hb⟩
 refine ⟨_, rfl, ?_⟩
 replace HO380 := rB HO380 hb
 replace HO383 := ak (Kd.R_lower ho0 (below_size (lT HB (gC GE376 (gC GE377 gN)))))
 replace BK376 := bB BK376 hb
 replace BK377 := bB BK377 hb
 replace HB := ak (below_step (lT HB (gC GE376 (gC GE377 gN))) hb)
 (try clear hb)
 (try clear hb2)
 (try clear hk)
 (try clear hi)
 (try clear ho0)
 obtain ⟨Ao9, co9, eo9⟩ := Kd.R_slice HO383.out
 (first | subst eo9 | (injection eo9 with f1_ f2_ f3_; have f4_ := f1_.symm; have f5_ := f3_.symm; clear f1_ f2_ f3_; subst f4_; subst f5_))
 obtain ⟨Ao10, co10, eo10⟩ := Kd.R_slice HO380.out
 (first | subst eo10 | (injection eo10 with f1_ f2_ f3_; have f4_ := f1_.symm; have f5_ := f3_.symm; clear f1_ f2_ f3_; subst f4_; subst f5_))
 refine hK.out _ _ ⟨bc BK376 0, bc BK376 1⟩ (fun hHeld => ?_)
 clear hK K
 refine nm ?_
 refine pu 6 9 (fb 8 127) HT_ ?_
 refine on 7 none (fb 8 255) HT_ (fun K hK => ?_)
 have hs11 : w8.cell? ⟨gb377, 0, none⟩ = some (.slice none 0 0) := bc BK377 0
 have hfs11 := blk_frozen BK377.out 0
 have hns11_0 := NB376_377.out
 have hms11_0 := NB377_376.out
 have hs12 : w8.cell? ⟨gb377, 1, none⟩ = some (.slice none 0 0) := bc BK377 1
 have hfs12 := blk_frozen BK377.out 1
 have hns12_0 := NB376_377.out
 have hms12_0 := NB377_376.out
 refine skip_ (w1 := ?_) (by rfl) rfl ?_ ?_
 rotate_left
 ·go_simp
  rfl
 refine hK.out _ _ ⟨((cell_far (p := ⟨gb377, _, none⟩) NB376_377.out _).trans (((cell_far (p := ⟨gb377, _, none⟩) NB376_377.out _).trans (hHeld.1)))), ((cell_far (p := ⟨gb377, _, none⟩) NB376_377.out _).trans (((cell_far (p := ⟨gb377, _, none⟩) NB376_377.out _).trans (hHeld.2))))⟩ (fun hHeld => ?_)
 clear hK K
 refine done_ (done_of HT_.out (by kernel_rfl)) ?_
 try go_wp2
 refine bodyPost_ret (results_cell_row rfl _ _ gb377 27 #[.slice Ao10 t378.length co10, .slice Ao9 t381.length co9] (0, 0) _ rfl (bW BK377) Try.underlying27 rfl (by kernel_rfl)) rfl ?_
 exact ⟨_, _, ew, by exact Kd.R_mono (rT HO380 BK377 (by decide)) (fun _ hk => trivial), by exact Kd.R_mono (rT HO383 BK377 (by decide)) (fun _ hk => trivial), by exact lT HB (gC GE376 (gC GE377 gN))⟩

-- NOT PRINTED: function 76 (slices_IndexFunc_string_string)

-- NOT PRINTED: function 51 (slices_ContainsFunc_string_string)

-- NOT PRINTED: function 77 (impl_Write_77)

-- NOT PRINTED: function 53 (impl_Write_53)

/-! ### impl_DiskOk: function 16 -/
theorem at_str {w : World} {A : Option Addr} {n : Nat} {xs : List ByteArray} (h : Kd.C Kd.string w A n xs) (i : Int) (h0 : 0 ≤ i) (h1 : i < n) : ∃ ad, A = some ad ∧ w.cell? (ad.add i.toNat) = some (.string (rdOf ByteArray.empty xs i)) := by
 obtain ⟨ad, c, e, hl, hK, hc⟩ := Kd.C_get h ByteArray.empty i h0 h1
 have hK' : c = [.string (xs.getD i.toNat ByteArray.empty)] := hK
 subst hK'
 have := hc 0 _ rfl
 exact ⟨ad, e, by simpa [Kd.string, Kd.scalar, rdOf] using this⟩
set_option maxHeartbeats 4000000 in
set_option maxRecDepth 100000 in
theorem idx_str (caps : Array Value) (p : ByteArray → Bool) (A0 : Option Addr) (c0 : Nat) (l0 : List ByteArray) (w : World) (hr0 : Kd.C Kd.string w A0 l0.length l0) (hc0 : l0.length ≤ c0)
  (hp : ∀ x, x ∈ l0 → ∀ W, Below w.heap.size w W → Calls Try.prog 52 (#[.string x] ++ caps) W fun e W' => e = .returned (.bool (p x)) ∧ Below W.heap.size W W') :
  Calls Try.prog 76 #[.slice A0 l0.length c0, .func (.func 52) #[] caps] w fun e w' => ∃ v : Int, e = .returned (.int .i64 v) ∧ Aside0 (decide (0 ≤ v) = l0.any p) ∧ Below w.heap.size w w' := by
 have HR0 := Aside0.mk hr0
 have HC0 := Aside0.mk hc0
 have HP := Aside0.mk hp
 have hm : l0.length ≤ 9223372036854775807 := hr0.2.1
 clear hr0 hc0 hp
 have HB := ak (Below.refl w.heap.size w)
 go_enter Try.func76, Try.ntmps76
 go_wp2
 go_loopg [8] l0.length (fun kq v8 w' => ∃ x8 : Int, v8 = .int .i64 x8 ∧ Aside0 (0 ≤ x8 ∧ x8 + kq = l0.length ∧ ∀ x, x ∈ l0.take x8.toNat → p x = false) ∧ Aside0 (Below w.heap.size w w'))
 case atStart => exact ⟨0, by first | rfl | (simp; done), ⟨by omega, by omega, by simp⟩, ⟨by first | exact HB.out | exact Below.refl _ _⟩⟩
 case round =>
  obtain ⟨x8, rfl, HX, HB⟩ := hrel
  by_cases c4 : x8 < (l0.length : Int)
  ·have c4b0 : decide (x8 < (l0.length : Int)) = true := decide_eq_true c4
   have c5b0 : decide (0 ≤ x8) = true := decide_eq_true HX.out.1
   have hl : x8.toNat < l0.length := by have := HX.out.1; omega
   have hmem : rdOf ByteArray.empty l0 x8 ∈ l0 := by
    unfold rdOf
    rw [List.getD_eq_getElem?_getD, List.getElem?_eq_getElem hl]
    exact List.getElem_mem hl
   have HQ := ak (fun W hW => HP.out _ hmem W hW)
   clear c4 hl hmem
   have p103 : 0 ≤ (x8 : Int) := of_decide_eq_true (by first | (with_reducible assumption) | assumption)
   have q103 : x8 < (l0.length : Int) := of_decide_eq_true (by first | (with_reducible assumption) | assumption)
   obtain ⟨ad103, e103, hx103_0⟩ := at_str HR0.out x8 p103 q103
   cases e103
   replace hx103_0 := (HB.out.cell (World.block_lt_of_cell? w _ hx103_0)).trans hx103_0
   replace p103 := eq_true p103
   replace q103 := eq_true q103
   obtain ⟨b, hb0⟩ : ∃ b, p (rdOf ByteArray.empty l0 x8) = b := ⟨_, rfl⟩
   have HPB := Aside0.mk hb0
   rw [hb0] at HQ
   clear hb0
   cases b with
   | true =>
    go_wp2_with (go_at_call 52; refine (HQ.out _ HB.out).mono ?_; rintro e w8 ⟨rfl, hb⟩; replace HB := ak (below_step (by exact HB.out) hb); clear hb)
    go_ret
    have h0 : 0 ≤ x8 := HX.out.1
    have hl : x8.toNat < l0.length := by have := HX.out.1; have := of_eq_true q103; omega
    refine ⟨x8, rfl, ⟨?_⟩, HB.out⟩
    rw [decide_eq_true h0]
    symm
    rw [List.any_eq_true]
    refine ⟨rdOf ByteArray.empty l0 x8, ?_, HPB.out⟩
    unfold rdOf
    rw [List.getD_eq_getElem?_getD, List.getElem?_eq_getElem hl]
    exact List.getElem_mem hl
   | false =>
    cases gk with
    | zero => exact absurd HX.out (by have := of_eq_true q103; omega)
    | succ k1 =>
    go_wp2_with (go_at_call 52; refine (HQ.out _ HB.out).mono ?_; rintro e w8 ⟨rfl, hb⟩; replace HB := ak (below_step (by exact HB.out) hb); clear hb)
    go_roundg k1
    case measure => omega
    case rel =>
     have h0 : 0 ≤ x8 := HX.out.1
     have h1 := HX.out.2.1
     have hl : x8.toNat < l0.length := by have := of_eq_true q103; omega
     have e1 : wrap64 (x8 + 1) = x8 + 1 := by unfold wrap64; omega
     refine ⟨x8 + 1, by first | rfl | (rw [e1]) | (simp [e1]; done), ⟨by omega, by omega, ?_⟩, HB⟩
     intro x hx
     rw [show (x8 + 1).toNat = x8.toNat + 1 by omega, List.take_succ_eq_append_getElem hl] at hx
     rcases List.mem_append.1 hx with hx | hx
     ·exact HX.out.2.2 x hx
     ·have hx' := List.mem_singleton.1 hx
      subst hx'
      have := HPB.out
      unfold rdOf at this
      rw [List.getD_eq_getElem?_getD, List.getElem?_eq_getElem hl] at this
      exact this
  ·have c4b0 : decide (x8 < (l0.length : Int)) = false := decide_eq_false c4
   clear c4
   go_wp2
   go_ret
   have h0 : 0 ≤ x8 := HX.out.1
   have h1 := HX.out.2.1
   have h2 := of_decide_eq_false c4b0
   refine ⟨-1, rfl, ⟨?_⟩, HB.out⟩
   symm
   rw [decide_eq_false (by omega)]
   rw [List.any_eq_false]
   intro x hx
   have := HX.out.2.2 x (by rw [List.take_of_length_le (by omega)]; exact hx)
   simp [this]
set_option maxHeartbeats 2000000 in
set_option maxRecDepth 100000 in
theorem cont_str (caps : Array Value) (p : ByteArray → Bool) (A0 : Option Addr) (c0 : Nat) (l0 : List ByteArray) (w : World) (hr0 : Kd.C Kd.string w A0 l0.length l0) (hc0 : l0.length ≤ c0)
  (hp : ∀ x, x ∈ l0 → ∀ W, Below w.heap.size w W → Calls Try.prog 52 (#[.string x] ++ caps) W fun e W' => e = .returned (.bool (p x)) ∧ Below W.heap.size W W') :
  Calls Try.prog 51 #[.slice A0 l0.length c0, .func (.func 52) #[] caps] w fun e w' => e = .returned (.bool (l0.any p)) ∧ Below w.heap.size w w' := by
 have HC := ak (fun (W : World) => idx_str caps p A0 c0 l0 w hr0 hc0 hp)
 clear hr0 hc0 hp
 go_enter Try.func51, Try.ntmps51
 go_wp2_with (go_at_call 76; refine (HC.out w).mono ?_; rintro e w8 ⟨v, rfl, hv, hb⟩)
 go_ret
 exact ⟨by rw [← hv.out]; rfl, hb⟩
set_option maxHeartbeats 4000000 in
set_option maxRecDepth 100000 in
theorem idx_wr (caps : Array Value) (p : S63 → Bool) (A0 : Option Addr) (c0 : Nat) (l0 : List S63) (w : World) (hr0 : Kd.C k63 w A0 l0.length l0) (hc0 : l0.length ≤ c0)
  (hp : ∀ x, x ∈ l0 → ∀ W, Below w.heap.size w W → Calls Try.prog 54 (#[.agg #[.int .i64 x.f0, .string x.f1]] ++ caps) W fun e W' => e = .returned (.bool (p x)) ∧ Below W.heap.size W W') :
  Calls Try.prog 77 #[.slice A0 l0.length c0, .func (.func 54) #[] caps] w fun e w' => ∃ v : Int, e = .returned (.int .i64 v) ∧ Aside0 (decide (0 ≤ v) = l0.any p) ∧ Below w.heap.size w w' := by
 have HR0 := Aside0.mk hr0
 have HC0 := Aside0.mk hc0
 have HP := Aside0.mk hp
 have hm : l0.length ≤ 9223372036854775807 := hr0.2.1
 clear hr0 hc0 hp
 have HB := ak (Below.refl w.heap.size w)
 go_enter Try.func77, Try.ntmps77
 go_wp2
 go_loopg [8] l0.length (fun kq v8 w' => ∃ x8 : Int, v8 = .int .i64 x8 ∧ Aside0 (0 ≤ x8 ∧ x8 + kq = l0.length ∧ ∀ x, x ∈ l0.take x8.toNat → p x = false) ∧ Aside0 (Below w.heap.size w w'))
 case atStart => exact ⟨0, by first | rfl | (simp; done), ⟨by omega, by omega, by simp⟩, ⟨by first | exact HB.out | exact Below.refl _ _⟩⟩
 case round =>
  obtain ⟨x8, rfl, HX, HB⟩ := hrel
  by_cases c4 : x8 < (l0.length : Int)
  ·have c4b0 : decide (x8 < (l0.length : Int)) = true := decide_eq_true c4
   have c5b0 : decide (0 ≤ x8) = true := decide_eq_true HX.out.1
   have hl : x8.toNat < l0.length := by have := HX.out.1; omega
   have hmem : rd_T63 l0 x8 ∈ l0 := by
    unfold rd_T63
    rw [List.getD_eq_getElem?_getD, List.getElem?_eq_getElem hl]
    exact List.getElem_mem hl
   have HQ := ak (fun W hW => HP.out _ hmem W hW)
   clear c4 hl hmem
   have p103 : 0 ≤ (x8 : Int) := of_decide_eq_true (by first | (with_reducible assumption) | assumption)
   have q103 : x8 < (l0.length : Int) := of_decide_eq_true (by first | (with_reducible assumption) | assumption)
   obtain ⟨ad103, e103, hx103_0, hx103_1⟩ := at_T63 HR0.out x8 p103 q103
   cases e103
   replace hx103_0 := (HB.out.cell (World.block_lt_of_cell? w _ hx103_0)).trans hx103_0
   replace hx103_1 := (HB.out.cell (World.block_lt_of_cell? w _ hx103_1)).trans hx103_1
   replace p103 := eq_true p103
   replace q103 := eq_true q103
   obtain ⟨b, hb0⟩ : ∃ b, p (rd_T63 l0 x8) = b := ⟨_, rfl⟩
   have HPB := Aside0.mk hb0
   rw [hb0] at HQ
   clear hb0
   cases b with
   | true =>
    go_wp2_with (go_at_call 54; refine (HQ.out _ HB.out).mono ?_; rintro e w8 ⟨rfl, hb⟩; replace HB := ak (below_step (by exact HB.out) hb); clear hb)
    go_ret
    have h0 : 0 ≤ x8 := HX.out.1
    have hl : x8.toNat < l0.length := by have := HX.out.1; have := of_eq_true q103; omega
    refine ⟨x8, rfl, ⟨?_⟩, HB.out⟩
    rw [decide_eq_true h0]
    symm
    rw [List.any_eq_true]
    refine ⟨rd_T63 l0 x8, ?_, HPB.out⟩
    unfold rd_T63
    rw [List.getD_eq_getElem?_getD, List.getElem?_eq_getElem hl]
    exact List.getElem_mem hl
   | false =>
    cases gk with
    | zero => exact absurd HX.out (by have := of_eq_true q103; omega)
    | succ k1 =>
    go_wp2_with (go_at_call 54; refine (HQ.out _ HB.out).mono ?_; rintro e w8 ⟨rfl, hb⟩; replace HB := ak (below_step (by exact HB.out) hb); clear hb)
    go_roundg k1
    case measure => omega
    case rel =>
     have h0 : 0 ≤ x8 := HX.out.1
     have h1 := HX.out.2.1
     have hl : x8.toNat < l0.length := by have := of_eq_true q103; omega
     have e1 : wrap64 (x8 + 1) = x8 + 1 := by unfold wrap64; omega
     refine ⟨x8 + 1, by first | rfl | (rw [e1]) | (simp [e1]; done), ⟨by omega, by omega, ?_⟩, HB⟩
     intro x hx
     rw [show (x8 + 1).toNat = x8.toNat + 1 by omega, List.take_succ_eq_append_getElem hl] at hx
     rcases List.mem_append.1 hx with hx | hx
     ·exact HX.out.2.2 x hx
     ·have hx' := List.mem_singleton.1 hx
      subst hx'
      have := HPB.out
      unfold rd_T63 at this
      rw [List.getD_eq_getElem?_getD, List.getElem?_eq_getElem hl] at this
      exact this
  ·have c4b0 : decide (x8 < (l0.length : Int)) = false := decide_eq_false c4
   clear c4
   go_wp2
   go_ret
   have h0 : 0 ≤ x8 := HX.out.1
   have h1 := HX.out.2.1
   have h2 := of_decide_eq_false c4b0
   refine ⟨-1, rfl, ⟨?_⟩, HB.out⟩
   symm
   rw [decide_eq_false (by omega)]
   rw [List.any_eq_false]
   intro x hx
   have := HX.out.2.2 x (by rw [List.take_of_length_le (by omega)]; exact hx)
   simp [this]
set_option maxHeartbeats 2000000 in
set_option maxRecDepth 100000 in
theorem cont_wr (caps : Array Value) (p : S63 → Bool) (A0 : Option Addr) (c0 : Nat) (l0 : List S63) (w : World) (hr0 : Kd.C k63 w A0 l0.length l0) (hc0 : l0.length ≤ c0)
  (hp : ∀ x, x ∈ l0 → ∀ W, Below w.heap.size w W → Calls Try.prog 54 (#[.agg #[.int .i64 x.f0, .string x.f1]] ++ caps) W fun e W' => e = .returned (.bool (p x)) ∧ Below W.heap.size W W') :
  Calls Try.prog 53 #[.slice A0 l0.length c0, .func (.func 54) #[] caps] w fun e w' => e = .returned (.bool (l0.any p)) ∧ Below w.heap.size w w' := by
 have HC := ak (fun (W : World) => idx_wr caps p A0 c0 l0 w hr0 hc0 hp)
 clear hr0 hc0 hp
 go_enter Try.func53, Try.ntmps53
 go_wp2_with (go_at_call 77; refine (HC.out w).mono ?_; rintro e w8 ⟨v, rfl, hv, hb⟩)
 go_ret
 exact ⟨by rw [← hv.out]; rfl, hb⟩
def wrBad (n0 : Nat) (x : S63) : Bool := !decide (0 ≤ x.f0 ∧ x.f0 ≤ (n0 : Int) - 1) || decide (x.f1.size ≠ 32)
def strBad (x : ByteArray) : Bool := decide (x.size ≠ 32)
theorem in_is (a b c : Int) : impl_in.f a b c = some (decide (b ≤ a ∧ a ≤ c)) := by
 unfold impl_in.f
 by_cases h : a ≥ b <;> by_cases h2 : a ≤ c <;> simp [h, h2] <;> omega
set_option maxHeartbeats 2000000 in
set_option maxRecDepth 100000 in
theorem clo_wr (gb n0 n1 c0 c1 : Nat) (A0 A1 : Option Addr) (x : S63) (W : World) (hn : n0 ≤ 100) (hb : W.heap[gb]? = some (.cells #[.slice A0 n0 c0, .slice A1 n1 c1] 27 (0, 0))) :
  Calls Try.prog 54 #[.agg #[.int .i64 x.f0, .string x.f1], .pointer (some ⟨gb, 0, none⟩)] W fun e W' => e = .returned (.bool (wrBad n0 x)) ∧ Below W.heap.size W W' := by
 obtain ⟨f0, f1⟩ := x
 have huW := Try.underlying63
 have huD := Try.underlying27
 have hi := in_is f0 0 ((n0 : Int) - 1)
 have hcz0 : W.cell? ⟨gb, 0, none⟩ = some (.slice A0 n0 c0) := (blk_cell hb 0).trans rfl
 have hcz1 : ∀ o, (W.alloc o).cell? ⟨gb, 0, none⟩ = some (.slice A0 n0 c0) := fun o => pw_cell_below (below_alloc (Below.refl _ _) o) hcz0
 have HA := ak (fun o => below_alloc (Below.refl W.heap.size W) o)
 clear hb hcz0
 by_cases h1 : 0 ≤ f0 ∧ f0 ≤ (n0 : Int) - 1
 ·rw [decide_eq_true h1] at hi
  have HI := Aside0.mk hi
  have HH := ak (show wrBad n0 ⟨f0, f1⟩ = decide (f1.size ≠ 32) by unfold wrBad; rw [decide_eq_true h1]; rfl)
  clear hi h1
  by_cases h2 : f1.size = 32
  ·have h3 : ((f1.size : Int) != 32) = false := by simp; omega
   have HH2 := Aside0.mk h2
   clear h2
   go_enter Try.func54, Try.ntmps54
   go_wp2_with (go_at_call 50; refine (impl_in.calls _ _ _ true _ HI.out).mono ?_; rintro e w8 ⟨rfl, ⟨nq, rfl⟩⟩)
   go_ret
   refine ⟨?_, ?_⟩
   ·rw [HH.out, decide_eq_false (by rw [HH2.out]; simp)]; rfl
   ·exact pw_below_drewN (HA.out _) _
  ·have h3 : ((f1.size : Int) != 32) = true := by simp; omega
   have HH2 := Aside0.mk h2
   clear h2
   go_enter Try.func54, Try.ntmps54
   go_wp2_with (go_at_call 50; refine (impl_in.calls _ _ _ true _ HI.out).mono ?_; rintro e w8 ⟨rfl, ⟨nq, rfl⟩⟩)
   go_ret
   refine ⟨?_, ?_⟩
   ·rw [HH.out, decide_eq_true HH2.out]; rfl
   ·exact pw_below_drewN (HA.out _) _
 ·rw [decide_eq_false h1] at hi
  have HI := Aside0.mk hi
  have HH := ak (show wrBad n0 ⟨f0, f1⟩ = true by unfold wrBad; rw [decide_eq_false h1]; rfl)
  clear hi h1
  go_enter Try.func54, Try.ntmps54
  go_wp2_with (go_at_call 50; refine (impl_in.calls _ _ _ false _ HI.out).mono ?_; rintro e w8 ⟨rfl, ⟨nq, rfl⟩⟩)
  go_ret
  refine ⟨?_, ?_⟩
  ·rw [HH.out]; rfl
  ·exact pw_below_drewN (HA.out _) _
set_option maxRecDepth 100000 in
theorem clo_str (x : ByteArray) (W : World) : Calls Try.prog 52 #[.string x] W fun e W' => e = .returned (.bool (strBad x)) ∧ Below W.heap.size W W' := by
 by_cases h2 : x.size = 32
 ·have h3 : ((x.size : Int) != 32) = false := by simp; omega
  have HH := ak (show strBad x = false by unfold strBad; rw [decide_eq_false (by rw [h2]; simp)])
  clear h2
  go_enter Try.func52, Try.ntmps52
  go_wp2
  go_ret
  exact ⟨by rw [HH.out]; rfl, Below.refl _ _⟩
 ·have h3 : ((x.size : Int) != 32) = true := by simp; omega
  have HH := ak (show strBad x = true by unfold strBad; rw [decide_eq_true h2])
  clear h2
  go_enter Try.func52, Try.ntmps52
  go_wp2
  go_ret
  exact ⟨by rw [HH.out]; rfl, Below.refl _ _⟩
def impl_DiskOk.f (l0_0 : List ByteArray) (l0_1 : List S63) : Option Bool := some (decide ((1 ≤ l0_0.length ∧ l0_0.length ≤ 100) ∧ l0_1.length ≤ 60) && (!l0_0.any strBad && !l0_1.any (wrBad l0_0.length)))
set_option maxHeartbeats 8000000 in
set_option maxRecDepth 100000 in
theorem impl_DiskOk.calls (A0_0 : Option Addr) (c0_0 : Nat) (l0_0 : List ByteArray) (A0_1 : Option Addr) (c0_1 : Nat) (l0_1 : List (S63)) (r : Bool) (w : World) (hr0_0 : Kd.C Kd.string w A0_0 l0_0.length l0_0) (hc0_0 : l0_0.length ≤ c0_0) (hr0_1 : Kd.C k63 w A0_1 l0_1.length l0_1) (hc0_1 : l0_1.length ≤ c0_1) (h : impl_DiskOk.f l0_0 l0_1 = some r) :
  Calls Try.prog 16 #[.agg #[.slice A0_0 l0_0.length c0_0, .slice A0_1 l0_1.length c0_1]] w fun e w' => e = .returned (.bool r) ∧ Below w.heap.size w w' := by
 have huD := Try.underlying27
 have hmf : ∀ (fn : Fn) (first cap : Array Value) (w : World), (Instr.makeFunc fn first cap).run Try.prog w = .ok (.func fn first cap) w := fun _ _ _ _ => rfl
 have HF := ak (Option.some.inj h)
 have HR0 := Aside0.mk hr0_0
 have HR1 := Aside0.mk hr0_1
 have HC0 := Aside0.mk hc0_0
 have HC1 := Aside0.mk hc0_1
 have HB := ak (Below.refl w.heap.size w)
 have hi := in_is (l0_0.length : Int) 1 100
 clear h hr0_0 hr0_1 hc0_0 hc0_1
 by_cases h1 : 1 ≤ l0_0.length ∧ l0_0.length ≤ 100
 ·rw [decide_eq_true (show 1 ≤ (l0_0.length : Int) ∧ (l0_0.length : Int) ≤ 100 by omega)] at hi
  have HI := Aside0.mk hi
  have HN := Aside0.mk h1
  clear hi h1
  by_cases h2 : l0_1.length ≤ 60
  ·have h3 : decide ((l0_1.length : Int) > 60) = false := by simp; omega
   have h3' : decide ((60 : Int) < (l0_1.length : Int)) = false := by simp; omega
   have h3'' : decide (60 < l0_1.length) = false := by simp; omega
   have HF2 := ak (show (!l0_0.any strBad && !l0_1.any (wrBad l0_0.length)) = r by have := HF.out; rw [decide_eq_true ⟨HN.out, h2⟩] at this; simpa using this)
   clear h2 HF
   obtain ⟨s, hs⟩ : ∃ s, l0_0.any strBad = s := ⟨_, rfl⟩
   have HS := Aside0.mk hs
   clear hs
   cases s with
   | true =>
    have HR := ak (show false = r by have := HF2.out; rw [HS.out] at this; simpa using this)
    clear HF2
    go_enter Try.func16, Try.ntmps16
    go_wp2_with (first
     | ((with_reducible refine gate_dst (N := 1) rfl ?_); refine bx 1 #[.slice A0_0 l0_0.length c0_0, .slice A0_1 l0_1.length c0_1] 27 ?_; intro gb hg w5 hbox hb; have BK := Aside0.mk hbox; replace HB := ak (below_step HB.out hb); clear hg hbox hb; have hcz0 : w5.cell? ⟨gb, 0, none⟩ = some (.slice A0_0 l0_0.length c0_0) := (blk_cell BK.out 0).trans rfl; have hcz1 : w5.cell? ⟨gb, 1, none⟩ = some (.slice A0_1 l0_1.length c0_1) := (blk_cell BK.out 1).trans rfl)
     | (go_at_call 50; refine (impl_in.calls _ _ _ true _ HI.out).mono ?_; rintro e w8 ⟨rfl, ⟨nq, rfl⟩⟩; have n0_ := ak (pw_below_drewN HB.out nq); have n1_ := ak (blk_drewN BK.out nq); clear HB BK; generalize World.drewN w5 nq = w6 at n0_ n1_ ⊢; have HB := n0_; have BK := n1_; clear n0_ n1_; have hcy0 : w6.cell? ⟨gb, 0, none⟩ = some (.slice A0_0 l0_0.length c0_0) := (blk_cell BK.out 0).trans rfl; have hcy1 : w6.cell? ⟨gb, 1, none⟩ = some (.slice A0_1 l0_1.length c0_1) := (blk_cell BK.out 1).trans rfl)
     | (go_at_call 51; refine (cont_str #[] strBad _ _ l0_0 _ (Kd.C_below HR0.out HB.out) HC0.out (fun x _ W _ => clo_str x W)).mono ?_; rintro e w9 ⟨rfl, hb⟩; replace HB := ak (below_step HB.out hb); clear hb; have hs1 := HS.out))
    go_ret
    exact ⟨by rw [← HR.out]; rfl, HB.out⟩
   | false =>
    have HR := ak (show (!l0_1.any (wrBad l0_0.length)) = r by have := HF2.out; rw [HS.out] at this; simpa using this)
    clear HF2
    go_enter Try.func16, Try.ntmps16
    go_wp2_with (first
     | ((with_reducible refine gate_dst (N := 1) rfl ?_); refine bx 1 #[.slice A0_0 l0_0.length c0_0, .slice A0_1 l0_1.length c0_1] 27 ?_; intro gb hg w5 hbox hb; have BK := Aside0.mk hbox; replace HB := ak (below_step HB.out hb); clear hg hbox hb; have hcz0 : w5.cell? ⟨gb, 0, none⟩ = some (.slice A0_0 l0_0.length c0_0) := (blk_cell BK.out 0).trans rfl; have hcz1 : w5.cell? ⟨gb, 1, none⟩ = some (.slice A0_1 l0_1.length c0_1) := (blk_cell BK.out 1).trans rfl)
     | (go_at_call 50; refine (impl_in.calls _ _ _ true _ HI.out).mono ?_; rintro e w8 ⟨rfl, ⟨nq, rfl⟩⟩; have n0_ := ak (pw_below_drewN HB.out nq); have n1_ := ak (blk_drewN BK.out nq); clear HB BK; generalize World.drewN w5 nq = w6 at n0_ n1_ ⊢; have HB := n0_; have BK := n1_; clear n0_ n1_; have hcy0 : w6.cell? ⟨gb, 0, none⟩ = some (.slice A0_0 l0_0.length c0_0) := (blk_cell BK.out 0).trans rfl; have hcy1 : w6.cell? ⟨gb, 1, none⟩ = some (.slice A0_1 l0_1.length c0_1) := (blk_cell BK.out 1).trans rfl)
     | (go_at_call 51; refine (cont_str #[] strBad _ _ l0_0 _ (Kd.C_below HR0.out HB.out) HC0.out (fun x _ W _ => clo_str x W)).mono ?_; rintro e w9 ⟨rfl, hb⟩; have n0_ := ak (below_step HB.out hb); have n1_ := ak (blk_below (g := gb) (o := .cells #[.slice A0_0 l0_0.length c0_0, .slice A0_1 l0_1.length c0_1] 27 (0, 0)) BK.out hb); clear HB BK; have HB := n0_; have BK := n1_; clear n0_ n1_ hb; have hs1 := HS.out; have hcx0 : w9.cell? ⟨gb, 0, none⟩ = some (.slice A0_0 l0_0.length c0_0) := (blk_cell BK.out 0).trans rfl; have hcx1 : w9.cell? ⟨gb, 1, none⟩ = some (.slice A0_1 l0_1.length c0_1) := (blk_cell BK.out 1).trans rfl)
     | (go_at_call 53; refine (cont_wr #[.pointer (some ⟨gb, 0, none⟩)] (wrBad l0_0.length) _ _ l0_1 _ (Kd.C_below HR1.out HB.out) HC1.out (fun x _ W hW => clo_wr gb _ _ _ _ _ _ x W HN.out.2 (blk_below (g := gb) (o := .cells #[.slice A0_0 l0_0.length c0_0, .slice A0_1 l0_1.length c0_1] 27 (0, 0)) BK.out hW))).mono ?_; rintro e w10 ⟨rfl, hb⟩; replace HB := ak (below_step HB.out hb); clear hb))
    go_ret
    exact ⟨by rw [← HR.out]; rfl, HB.out⟩
  ·have h3 : decide ((l0_1.length : Int) > 60) = true := by simp; omega
   have h3' : decide ((60 : Int) < (l0_1.length : Int)) = true := by simp; omega
   have h3'' : decide (60 < l0_1.length) = true := by simp; omega
   have HR := ak (show false = r by have := HF.out; rw [decide_eq_false (fun hh => h2 hh.2)] at this; simpa using this)
   clear h2 HF
   go_enter Try.func16, Try.ntmps16
   go_wp2_with (first
     | ((with_reducible refine gate_dst (N := 1) rfl ?_); refine bx 1 #[.slice A0_0 l0_0.length c0_0, .slice A0_1 l0_1.length c0_1] 27 ?_; intro gb hg w5 hbox hb; have BK := Aside0.mk hbox; replace HB := ak (below_step HB.out hb); clear hg hbox hb; have hcz0 : w5.cell? ⟨gb, 0, none⟩ = some (.slice A0_0 l0_0.length c0_0) := (blk_cell BK.out 0).trans rfl; have hcz1 : w5.cell? ⟨gb, 1, none⟩ = some (.slice A0_1 l0_1.length c0_1) := (blk_cell BK.out 1).trans rfl)
     | (go_at_call 50; refine (impl_in.calls _ _ _ true _ HI.out).mono ?_; rintro e w8 ⟨rfl, ⟨nq, rfl⟩⟩; have n0_ := ak (pw_below_drewN HB.out nq); have n1_ := ak (blk_drewN BK.out nq); clear HB BK; generalize World.drewN w5 nq = w6 at n0_ n1_ ⊢; have HB := n0_; have BK := n1_; clear n0_ n1_; have hcy0 : w6.cell? ⟨gb, 0, none⟩ = some (.slice A0_0 l0_0.length c0_0) := (blk_cell BK.out 0).trans rfl; have hcy1 : w6.cell? ⟨gb, 1, none⟩ = some (.slice A0_1 l0_1.length c0_1) := (blk_cell BK.out 1).trans rfl))
   go_ret
   exact ⟨by rw [← HR.out]; rfl, HB.out⟩
 ·rw [decide_eq_false (show ¬ (1 ≤ (l0_0.length : Int) ∧ (l0_0.length : Int) ≤ 100) by omega)] at hi
  have HI := Aside0.mk hi
  have HR := ak (show false = r by have := HF.out; rw [decide_eq_false (fun hh => h1 hh.1)] at this; simpa using this)
  clear hi h1 HF
  go_enter Try.func16, Try.ntmps16
  go_wp2_with (first
     | ((with_reducible refine gate_dst (N := 1) rfl ?_); refine bx 1 #[.slice A0_0 l0_0.length c0_0, .slice A0_1 l0_1.length c0_1] 27 ?_; intro gb hg w5 hbox hb; have BK := Aside0.mk hbox; replace HB := ak (below_step HB.out hb); clear hg hbox hb; have hcz0 : w5.cell? ⟨gb, 0, none⟩ = some (.slice A0_0 l0_0.length c0_0) := (blk_cell BK.out 0).trans rfl; have hcz1 : w5.cell? ⟨gb, 1, none⟩ = some (.slice A0_1 l0_1.length c0_1) := (blk_cell BK.out 1).trans rfl)
     | (go_at_call 50; refine (impl_in.calls _ _ _ false _ HI.out).mono ?_; rintro e w8 ⟨rfl, ⟨nq, rfl⟩⟩; have n0_ := ak (pw_below_drewN HB.out nq); have n1_ := ak (blk_drewN BK.out nq); clear HB BK; generalize World.drewN w5 nq = w6 at n0_ n1_ ⊢; have HB := n0_; have BK := n1_; clear n0_ n1_; have hcy0 : w6.cell? ⟨gb, 0, none⟩ = some (.slice A0_0 l0_0.length c0_0) := (blk_cell BK.out 0).trans rfl; have hcy1 : w6.cell? ⟨gb, 1, none⟩ = some (.slice A0_1 l0_1.length c0_1) := (blk_cell BK.out 1).trans rfl))
  go_ret
  exact ⟨by rw [← HR.out]; rfl, HB.out⟩

/-! ### impl_WriteSector: function 12 -/
def impl_WriteSector.f (l0_0 : List ByteArray) (l0_1 : List (S63)) (a1 : Int) (a2 : ByteArray) : Option (List ByteArray × (List (S63)) × Bool) := (impl_cloneDisk.f l0_0 l0_1).bind fun bt386 => (if bt386.2.length < 5864062014805 then ((some (bt386.2 ++ [(⟨a1, a2⟩ : S63)] : List (S63))).bind fun y393 => ((impl_DiskOk.f l0_0 l0_1).bind fun t396 => (if t396 = true then ((impl_DiskOk.f bt386.1 y393).bind fun t397 => (if t397 = true then (some (bt386.1, y393, true)) else ((impl_cloneDisk.f l0_0 l0_1).bind fun bt398 => (some (bt398.1, bt398.2, false))))) else ((impl_cloneDisk.f l0_0 l0_1).bind fun bt404 => (some (bt404.1, bt404.2, false)))))) else (none))
set_option maxHeartbeats 8000000 in
set_option maxRecDepth 100000 in
theorem impl_WriteSector.calls (A0_0 : Option Addr) (c0_0 : Nat) (l0_0 : List ByteArray) (A0_1 : Option Addr) (c0_1 : Nat) (l0_1 : List (S63)) (a1 : Int) (a2 : ByteArray) (r1 : List ByteArray) (r2 : List (S63)) (r3 : Bool) (w : World) (hr0_0 : Kd.C Kd.string w A0_0 l0_0.length l0_0) (hc0_0 : l0_0.length ≤ c0_0) (hr0_1 : Kd.C k63 w A0_1 l0_1.length l0_1) (hc0_1 : l0_1.length ≤ c0_1) (h : impl_WriteSector.f l0_0 l0_1 a1 a2 = some (r1, r2, r3)) :
  Calls Try.prog 12 #[.agg #[.slice A0_0 l0_0.length c0_0, .slice A0_1 l0_1.length c0_1], .int .i64 a1, .string a2] w fun e w' => ∃ v0_ v1_ : Value, e = .returned (.tuple #[.agg #[v0_, v1_], .bool r3]) ∧ Kd.R Kd.string 9 w' w.heap.size (fun _ => True) v0_ r1 ∧ Kd.R k63 63 w' w.heap.size (fun _ => True) v1_ r2 ∧ Below w.heap.size w w' := by
 have hu27 := Try.underlying27
 have hu63 := Try.underlying63
 have HR0_0 := Aside0.mk hr0_0
 have HC0_0 := Aside0.mk hc0_0
 clear hr0_0 hc0_0
 have HR0_1 := Aside0.mk hr0_1
 have HC0_1 := Aside0.mk hc0_1
 clear hr0_1 hc0_1
 have HB := ak (Below.refl w.heap.size w)
 have H : ((impl_cloneDisk.f l0_0 l0_1).bind fun bt386 => (if bt386.2.length < 5864062014805 then ((some (bt386.2 ++ [(⟨a1, a2⟩ : S63)] : List (S63))).bind fun y393 => ((impl_DiskOk.f l0_0 l0_1).bind fun t396 => (if t396 = true then ((impl_DiskOk.f bt386.1 y393).bind fun t397 => (if t397 = true then (some (bt386.1, y393, true)) else ((impl_cloneDisk.f l0_0 l0_1).bind fun bt398 => (some (bt398.1, bt398.2, false))))) else ((impl_cloneDisk.f l0_0 l0_1).bind fun bt404 => (some (bt404.1, bt404.2, false)))))) else (none))) = some (r1, r2, r3) := h
 clear h
 replace H := Option.bind_eq_some_iff.mp H
 obtain ⟨⟨t386, t389⟩, A40, H⟩ := H
 replace H : (if t389.length < 5864062014805 then ((some (t389 ++ [(⟨a1, a2⟩ : S63)] : List (S63))).bind fun y393 => ((impl_DiskOk.f l0_0 l0_1).bind fun t396 => (if t396 = true then ((impl_DiskOk.f t386 y393).bind fun t397 => (if t397 = true then (some (t386, y393, true)) else ((impl_cloneDisk.f l0_0 l0_1).bind fun bt398 => (some (bt398.1, bt398.2, false))))) else ((impl_cloneDisk.f l0_0 l0_1).bind fun bt404 => (some (bt404.1, bt404.2, false)))))) else (none)) = some (r1, r2, r3) := H
 have A4 := Aside0.mk A40
 clear A40
 by_cases c5 : t389.length < 5864062014805
 ·rw [if_pos c5] at H
  have LMc5 := Aside0.mk c5
  clear c5
  obtain ⟨y393, hy393⟩ : ∃ y_ : List (S63), y_ = (t389 ++ [(⟨a1, a2⟩ : S63)]) := ⟨_, rfl⟩
  replace H : ((impl_DiskOk.f l0_0 l0_1).bind fun t396 => (if t396 = true then ((impl_DiskOk.f t386 y393).bind fun t397 => (if t397 = true then (some (t386, y393, true)) else ((impl_cloneDisk.f l0_0 l0_1).bind fun bt398 => (some (bt398.1, bt398.2, false))))) else ((impl_cloneDisk.f l0_0 l0_1).bind fun bt404 => (some (bt404.1, bt404.2, false))))) = some (r1, r2, r3) := by first | (rw [hy393]; with_reducible exact H) | (have H2_ := (Option.bind_some _ _).symm.trans H; rw [hy393]; with_reducible exact H2_) | (have H2_ := (Option.bind_some _ _).symm.trans H; with_reducible exact H2_) | with_reducible exact H | (rw [hy393]; exact H) | exact H
  have Ny393 := Aside0.mk hy393
  clear hy393
  replace H := Option.bind_eq_some_iff.mp H
  obtain ⟨t396, A60, H⟩ := H
  replace H : (if t396 = true then ((impl_DiskOk.f t386 y393).bind fun t397 => (if t397 = true then (some (t386, y393, true)) else ((impl_cloneDisk.f l0_0 l0_1).bind fun bt398 => (some (bt398.1, bt398.2, false))))) else ((impl_cloneDisk.f l0_0 l0_1).bind fun bt404 => (some (bt404.1, bt404.2, false)))) = some (r1, r2, r3) := H
  have A6 := Aside0.mk A60
  clear A60
  by_cases c7 : t396 = true
  ·subst c7
   have H1 : ((impl_DiskOk.f t386 y393).bind fun t397 => (if t397 = true then (some (t386, y393, true)) else ((impl_cloneDisk.f l0_0 l0_1).bind fun bt398 => (some (bt398.1, bt398.2, false))))) = some (r1, r2, r3) := by rw [if_pos rfl] at H; exact H
   clear H
   have H := H1
   clear H1
   replace H := Option.bind_eq_some_iff.mp H
   obtain ⟨t397, A80, H⟩ := H
   replace H : (if t397 = true then (some (t386, y393, true)) else ((impl_cloneDisk.f l0_0 l0_1).bind fun bt398 => (some (bt398.1, bt398.2, false)))) = some (r1, r2, r3) := H
   have A8 := Aside0.mk A80
   clear A80
   by_cases c9 : t397 = true
   ·subst c9
    have H1 : (some (t386, y393, true)) = some (r1, r2, r3) := by rw [if_pos rfl] at H; exact H
    clear H
    have H := H1
    clear H1
    simp only [Option.some.injEq, Prod.mk.injEq] at H
    obtain ⟨rfl, rfl, rfl⟩ := H
    go_enter Try.func12, Try.ntmps12
    go_wp2_with (first | ((with_reducible refine gate_dst (N := 3) rfl ?_); refine bx 3 #[.slice A0_0 l0_0.length c0_0, .slice A0_1 l0_1.length c0_1] 27 ?_; intro gb384 hg w10 hbox hb; replace BK384 := ak (hbox); replace GW384 := ak (bz hg (lG HB)); replace GE384 := ak (bz hg (lG HB)); replace HB := lB HB hb; clear hb hbox hg) | ((with_reducible refine gate_dst (N := 6) rfl ?_); refine bx 6 #[.slice none 0 0, .slice none 0 0] 27 ?_; intro gb385 hg w11 hbox hb; replace BK385 := ak (hbox); replace GW385 := ak (bz hg (lT HB (gC GE384 gN))); replace GE385 := ak (bz hg (lT HB (gC GE384 gN))); replace HB := ak (below_step (lT HB (gC GE384 gN)) hb); replace NB384_385 := ak (nl hg (bG BK384)); replace NB385_384 := ak (ng hg (bG BK384)); replace BK384 := bB BK384 hb; clear hb hbox hg; have hnb12 := NB384_385.out; have hnc12 := NB385_384.out; obtain ⟨hcz13_0, hcz13_1, hfz13_0, hfz13_1⟩ := bC2 BK384) | ((with_reducible refine gate_callee (f := 48) rfl ?_); refine gl (some 10) Try.func48 #[.agg #[.slice A0_0 l0_0.length c0_0, .slice A0_1 l0_1.length c0_1]] ?_; (with_reducible refine (impl_cloneDisk.calls _ _ l0_0 _ _ l0_1 t386 t389 _ ?side1 ?side2 ?side3 ?side4 A4.out).mono ?_); (case side1 => exact cG (Kd.C_below HR0_0.out HB.out)); (case side2 => exact HC0_0.out); (case side3 => exact cG (Kd.C_below HR0_1.out HB.out)); (case side4 => exact HC0_1.out); rintro e w14 ⟨v387, v390, rfl, ho0, ho1, hb⟩; refine ⟨_, rfl, ?_⟩; replace HO388 := ak (Kd.R_lower ho0 (below_size (lT HB (gC GE384 (gC GE385 gN))))); replace HO391 := ak (Kd.R_lower ho1 (below_size (lT HB (gC GE384 (gC GE385 gN))))); replace BK384 := bB BK384 hb; replace BK385 := bB BK385 hb; replace HB := ak (below_step (lT HB (gC GE384 (gC GE385 gN))) hb); (try clear hb); (try clear hk); (try clear ho0); (try clear ho1)) | ((with_reducible refine gate_dst (N := 8) rfl ?_); refine bx 8 #[.slice none 0 0, .slice none 0 0] 27 ?_; intro gb392 hg w15 hbox hb; replace HO388 := rB HO388 hb; replace HO391 := rB HO391 hb; replace BK392 := ak (hbox); replace GW392 := ak (bz hg (lT HB (gC GE384 (gC GE385 gN)))); replace GE392 := ak (bz hg (lT HB (gC GE384 (gC GE385 gN)))); replace HB := ak (below_step (lT HB (gC GE384 (gC GE385 gN))) hb); replace NB384_392 := ak (nl hg (bG BK384)); replace NB392_384 := ak (ng hg (bG BK384)); replace BK384 := bB BK384 hb; replace NB385_392 := ak (nl hg (bG BK385)); replace NB392_385 := ak (ng hg (bG BK385)); replace BK385 := bB BK385 hb; clear hb hbox hg; obtain ⟨Ao16, co16, eo16⟩ := Kd.R_slice HO388.out; subst eo16; have hnb17 := NB392_384.out; have hnc17 := NB384_392.out; have hnb18 := NB392_385.out; have hnc18 := NB385_392.out; obtain ⟨hcz19_0, hcz19_1, hfz19_0, hfz19_1⟩ := bC2 BK392; obtain ⟨Ao20, co20, eo20⟩ := Kd.R_slice HO391.out; subst eo20) | ((with_reducible refine gate_builtin (b := .append) (xs := #[.tmp 12, .tmp 16]) rfl ?_); at_builtin; refine Kd.R_append k63 (w0 := w) w.heap.size rfl (.tmp 12) (.tmp 16) 25 63 (.agg #[(.int .i64 0), (.string ⟨#[]⟩)]) 24 rfl Try.underlying25 info63 rfl (by decide) (by omega) (.slice Ao20 t389.length co20) t389 (⟨a1, a2⟩ : S63) [.int .i64 a1, .string a2] (fun _ => True) (fun _ => False) rfl (by first | (go_simp; done) | (go_simp; rfl)) ?aP (fun _ hk => hk.elim) ?aF ?aO ?aB ?aS ?aL ?_; (case aP => exact k63_mkM _ _ _ (⟨a1, a2⟩ : S63)); (case aB => exact (lT HB (gC GE384 (gC GE385 (gC GE392 gN))))); (case aF => exact (fun _ _ => trivial)); (case aO => exact (by exact Kd.R_mono (rT HO391 BK392 (by decide)) (fun _ hk => trivial))); (case aS => exact (below_size (lT HB (gC GE384 (gC GE385 (gC GE392 gN)))))); (case aL => have := LMc5.out; omega); intro v394 w21 ho hb hg hat; rw [← Ny393.out] at ho; have n0_ := ak (blk_grown (g := gb384) (o := .cells #[.slice A0_0 l0_0.length c0_0, .slice A0_1 l0_1.length c0_1] 27 (0, 0)) (bT BK384 (nC NB384_392 nN)) hg (Kd.R_ne HO391.out BK384.out (by decide))); have n1_ := ak (blk_grown (g := gb385) (o := .cells #[.slice none 0 0, .slice none 0 0] 27 (0, 0)) (bT BK385 (nC NB385_392 nN)) hg (Kd.R_ne HO391.out BK385.out (by decide))); have n2_ := ak (Kd.R_over' (rT HO388 BK392 (by decide)) (Kd.R_typed (rT HO391 BK392 (by decide))) (by decide) hg); have n3_ := ak (blk_grown (g := gb392) (o := .cells #[.slice Ao16 t386.length co16, .slice Ao20 t389.length co20] 27 (0, 0)) (bW BK392) hg (Kd.R_ne HO391.out BK392.out (by decide))); have n4_ := ak (hb); have n5_ := ak (ho); clear BK384; clear BK385; clear HO388; clear BK392; clear HB; clear HO391; have BK384 := n0_; have BK385 := n1_; have HO388 := n2_; have BK392 := n3_; have HB := n4_; have HO395 := n5_; clear n0_ n1_ n2_ n3_ n4_ n5_; clear ho hb hg hat; obtain ⟨Ao22, co22, eo22⟩ := Kd.R_slice HO395.out; subst eo22; obtain ⟨hcz23_0, hcz23_1, hfz23_0, hfz23_1⟩ := bC2 BK392; obtain ⟨hcz24_0, hcz24_1, hfz24_0, hfz24_1⟩ := bC2 BK384) | ((with_reducible refine gate_callee (f := 16) rfl ?_); refine gl (some 20) Try.func16 #[.agg #[.slice A0_0 l0_0.length c0_0, .slice A0_1 l0_1.length c0_1]] ?_; (with_reducible refine (impl_DiskOk.calls _ _ l0_0 _ _ l0_1 true _ ?side1 ?side2 ?side3 ?side4 A6.out).mono ?_); (case side1 => exact Kd.C_below HR0_0.out (lT HB (gC GE384 (gC GE385 (gC GE392 gN))))); (case side2 => exact HC0_0.out); (case side3 => exact Kd.C_below HR0_1.out (lT HB (gC GE384 (gC GE385 (gC GE392 gN))))); (case side4 => exact HC0_1.out); rintro e w25 ⟨rfl, hb⟩; refine ⟨_, rfl, ?_⟩; replace HO388 := ak (Kd.R_below (rT HO388 BK392 (by decide)) hb); replace HO395 := ak (Kd.R_below (rT HO395 BK392 (by decide)) hb); replace BK384 := ak (blk_below (bT BK384 (nC NB384_392 nN)) hb); replace BK385 := ak (blk_below (bT BK385 (nC NB385_392 nN)) hb); replace BK392 := ak (blk_below (g := gb392) (o := .cells #[.slice Ao16 t386.length co16, .slice Ao22 y393.length co22] 27 (0, 0)) (bW BK392) hb); replace HB := ak (below_step (lT HB (gC GE384 (gC GE385 (gC GE392 gN)))) hb); (try clear hb); (try clear hk); obtain ⟨hcz26_0, hcz26_1, hfz26_0, hfz26_1⟩ := bC2 BK392) | (go_at_call 16; (with_reducible refine (impl_DiskOk.calls _ _ t386 _ _ y393 true _ ?side1 ?side2 ?side3 ?side4 A8.out).mono ?_); (case side1 => exact cG (Kd.R_reads' HO388.out).2.2); (case side2 => exact (Kd.R_reads' HO388.out).2.1); (case side3 => exact cG (Kd.R_reads' HO395.out).2.2); (case side4 => exact (Kd.R_reads' HO395.out).2.1); rintro e w27 ⟨rfl, hb⟩; replace HO388 := rB HO388 hb; replace HO395 := rB HO395 hb; replace BK384 := bB BK384 hb; replace BK385 := bB BK385 hb; replace BK392 := bB BK392 hb; replace HB := ak (below_step (lT HB (gC GE384 (gC GE385 (gC GE392 gN)))) hb); (try clear hb); (try clear hk); obtain ⟨hcz28_0, hcz28_1, hfz28_0, hfz28_1⟩ := bC2 BK392; obtain ⟨hcz29_0, hcz29_1, hfz29_0, hfz29_1⟩ := bC2 BK385))
    refine bodyPost_ret (results_ct rfl _ _ gb385 27 #[.slice Ao16 t386.length co16, .slice Ao22 y393.length co22] (0, 0) _ rfl (bW BK385) Try.underlying27 rfl (by kernel_rfl)) rfl ?_
    exact ⟨_, _, ew, by exact Kd.R_mono (rT HO388 BK385 (by decide)) (fun _ hk => trivial), by exact Kd.R_mono (rT HO395 BK385 (by decide)) (fun _ hk => trivial), by exact lT HB (gC GE384 (gC GE385 (gC GE392 gN)))⟩
   ·replace c9 := Bool.eq_false_iff.mpr c9
    subst c9
    have H1 : ((impl_cloneDisk.f l0_0 l0_1).bind fun bt398 => (some (bt398.1, bt398.2, false))) = some (r1, r2, r3) := by rw [if_neg (show ¬ (false = true) by decide)] at H; exact H
    clear H
    have H := H1
    clear H1
    replace H := Option.bind_eq_some_iff.mp H
    obtain ⟨⟨t398, t401⟩, A300, H⟩ := H
    replace H : (some (t398, t401, false)) = some (r1, r2, r3) := H
    have A30 := Aside0.mk A300
    clear A300
    simp only [Option.some.injEq, Prod.mk.injEq] at H
    obtain ⟨rfl, rfl, rfl⟩ := H
    go_enter Try.func12, Try.ntmps12
    go_wp2_with (first | ((with_reducible refine gate_dst (N := 3) rfl ?_); refine bx 3 #[.slice A0_0 l0_0.length c0_0, .slice A0_1 l0_1.length c0_1] 27 ?_; intro gb384 hg w31 hbox hb; replace BK384 := ak (hbox); replace GW384 := ak (bz hg (lG HB)); replace GE384 := ak (bz hg (lG HB)); replace HB := lB HB hb; clear hb hbox hg) | ((with_reducible refine gate_dst (N := 6) rfl ?_); refine bx 6 #[.slice none 0 0, .slice none 0 0] 27 ?_; intro gb385 hg w32 hbox hb; replace BK385 := ak (hbox); replace GW385 := ak (bz hg (lT HB (gC GE384 gN))); replace GE385 := ak (bz hg (lT HB (gC GE384 gN))); replace HB := ak (below_step (lT HB (gC GE384 gN)) hb); replace NB384_385 := ak (nl hg (bG BK384)); replace NB385_384 := ak (ng hg (bG BK384)); replace BK384 := bB BK384 hb; clear hb hbox hg; have hnb33 := NB384_385.out; have hnc33 := NB385_384.out; obtain ⟨hcz34_0, hcz34_1, hfz34_0, hfz34_1⟩ := bC2 BK384) | ((with_reducible refine gate_callee (f := 48) rfl ?_); refine gl (some 10) Try.func48 #[.agg #[.slice A0_0 l0_0.length c0_0, .slice A0_1 l0_1.length c0_1]] ?_; (with_reducible refine (impl_cloneDisk.calls _ _ l0_0 _ _ l0_1 t386 t389 _ ?side1 ?side2 ?side3 ?side4 A4.out).mono ?_); (case side1 => exact cG (Kd.C_below HR0_0.out HB.out)); (case side2 => exact HC0_0.out); (case side3 => exact cG (Kd.C_below HR0_1.out HB.out)); (case side4 => exact HC0_1.out); rintro e w35 ⟨v387, v390, rfl, ho0, ho1, hb⟩; refine ⟨_, rfl, ?_⟩; replace HO388 := ak (Kd.R_lower ho0 (below_size (lT HB (gC GE384 (gC GE385 gN))))); replace HO391 := ak (Kd.R_lower ho1 (below_size (lT HB (gC GE384 (gC GE385 gN))))); replace BK384 := bB BK384 hb; replace BK385 := bB BK385 hb; replace HB := ak (below_step (lT HB (gC GE384 (gC GE385 gN))) hb); (try clear hb); (try clear hk); (try clear ho0); (try clear ho1)) | ((with_reducible refine gate_dst (N := 8) rfl ?_); refine bx 8 #[.slice none 0 0, .slice none 0 0] 27 ?_; intro gb392 hg w36 hbox hb; replace HO388 := rB HO388 hb; replace HO391 := rB HO391 hb; replace BK392 := ak (hbox); replace GW392 := ak (bz hg (lT HB (gC GE384 (gC GE385 gN)))); replace GE392 := ak (bz hg (lT HB (gC GE384 (gC GE385 gN)))); replace HB := ak (below_step (lT HB (gC GE384 (gC GE385 gN))) hb); replace NB384_392 := ak (nl hg (bG BK384)); replace NB392_384 := ak (ng hg (bG BK384)); replace BK384 := bB BK384 hb; replace NB385_392 := ak (nl hg (bG BK385)); replace NB392_385 := ak (ng hg (bG BK385)); replace BK385 := bB BK385 hb; clear hb hbox hg; obtain ⟨Ao37, co37, eo37⟩ := Kd.R_slice HO388.out; subst eo37; have hnb38 := NB392_384.out; have hnc38 := NB384_392.out; have hnb39 := NB392_385.out; have hnc39 := NB385_392.out; obtain ⟨hcz40_0, hcz40_1, hfz40_0, hfz40_1⟩ := bC2 BK392; obtain ⟨Ao41, co41, eo41⟩ := Kd.R_slice HO391.out; subst eo41) | ((with_reducible refine gate_builtin (b := .append) (xs := #[.tmp 12, .tmp 16]) rfl ?_); at_builtin; refine Kd.R_append k63 (w0 := w) w.heap.size rfl (.tmp 12) (.tmp 16) 25 63 (.agg #[(.int .i64 0), (.string ⟨#[]⟩)]) 24 rfl Try.underlying25 info63 rfl (by decide) (by omega) (.slice Ao41 t389.length co41) t389 (⟨a1, a2⟩ : S63) [.int .i64 a1, .string a2] (fun _ => True) (fun _ => False) rfl (by first | (go_simp; done) | (go_simp; rfl)) ?aP (fun _ hk => hk.elim) ?aF ?aO ?aB ?aS ?aL ?_; (case aP => exact k63_mkM _ _ _ (⟨a1, a2⟩ : S63)); (case aB => exact (lT HB (gC GE384 (gC GE385 (gC GE392 gN))))); (case aF => exact (fun _ _ => trivial)); (case aO => exact (by exact Kd.R_mono (rT HO391 BK392 (by decide)) (fun _ hk => trivial))); (case aS => exact (below_size (lT HB (gC GE384 (gC GE385 (gC GE392 gN)))))); (case aL => have := LMc5.out; omega); intro v394 w42 ho hb hg hat; rw [← Ny393.out] at ho; have n0_ := ak (blk_grown (g := gb384) (o := .cells #[.slice A0_0 l0_0.length c0_0, .slice A0_1 l0_1.length c0_1] 27 (0, 0)) (bT BK384 (nC NB384_392 nN)) hg (Kd.R_ne HO391.out BK384.out (by decide))); have n1_ := ak (blk_grown (g := gb385) (o := .cells #[.slice none 0 0, .slice none 0 0] 27 (0, 0)) (bT BK385 (nC NB385_392 nN)) hg (Kd.R_ne HO391.out BK385.out (by decide))); have n2_ := ak (Kd.R_over' (rT HO388 BK392 (by decide)) (Kd.R_typed (rT HO391 BK392 (by decide))) (by decide) hg); have n3_ := ak (blk_grown (g := gb392) (o := .cells #[.slice Ao37 t386.length co37, .slice Ao41 t389.length co41] 27 (0, 0)) (bW BK392) hg (Kd.R_ne HO391.out BK392.out (by decide))); have n4_ := ak (hb); have n5_ := ak (ho); clear BK384; clear BK385; clear HO388; clear BK392; clear HB; clear HO391; have BK384 := n0_; have BK385 := n1_; have HO388 := n2_; have BK392 := n3_; have HB := n4_; have HO395 := n5_; clear n0_ n1_ n2_ n3_ n4_ n5_; clear ho hb hg hat; obtain ⟨Ao43, co43, eo43⟩ := Kd.R_slice HO395.out; subst eo43; obtain ⟨hcz44_0, hcz44_1, hfz44_0, hfz44_1⟩ := bC2 BK392; obtain ⟨hcz45_0, hcz45_1, hfz45_0, hfz45_1⟩ := bC2 BK384) | ((with_reducible refine gate_callee (f := 16) rfl ?_); refine gl (some 20) Try.func16 #[.agg #[.slice A0_0 l0_0.length c0_0, .slice A0_1 l0_1.length c0_1]] ?_; (with_reducible refine (impl_DiskOk.calls _ _ l0_0 _ _ l0_1 true _ ?side1 ?side2 ?side3 ?side4 A6.out).mono ?_); (case side1 => exact Kd.C_below HR0_0.out (lT HB (gC GE384 (gC GE385 (gC GE392 gN))))); (case side2 => exact HC0_0.out); (case side3 => exact Kd.C_below HR0_1.out (lT HB (gC GE384 (gC GE385 (gC GE392 gN))))); (case side4 => exact HC0_1.out); rintro e w46 ⟨rfl, hb⟩; refine ⟨_, rfl, ?_⟩; replace HO388 := ak (Kd.R_below (rT HO388 BK392 (by decide)) hb); replace HO395 := ak (Kd.R_below (rT HO395 BK392 (by decide)) hb); replace BK384 := ak (blk_below (bT BK384 (nC NB384_392 nN)) hb); replace BK385 := ak (blk_below (bT BK385 (nC NB385_392 nN)) hb); replace BK392 := ak (blk_below (g := gb392) (o := .cells #[.slice Ao37 t386.length co37, .slice Ao43 y393.length co43] 27 (0, 0)) (bW BK392) hb); replace HB := ak (below_step (lT HB (gC GE384 (gC GE385 (gC GE392 gN)))) hb); (try clear hb); (try clear hk); obtain ⟨hcz47_0, hcz47_1, hfz47_0, hfz47_1⟩ := bC2 BK392) | (go_at_call 16; (with_reducible refine (impl_DiskOk.calls _ _ t386 _ _ y393 false _ ?side1 ?side2 ?side3 ?side4 A8.out).mono ?_); (case side1 => exact cG (Kd.R_reads' HO388.out).2.2); (case side2 => exact (Kd.R_reads' HO388.out).2.1); (case side3 => exact cG (Kd.R_reads' HO395.out).2.2); (case side4 => exact (Kd.R_reads' HO395.out).2.1); rintro e w48 ⟨rfl, hb⟩; replace HO388 := rB HO388 hb; replace HO395 := rB HO395 hb; replace BK384 := bB BK384 hb; replace BK385 := bB BK385 hb; replace BK392 := bB BK392 hb; replace HB := ak (below_step (lT HB (gC GE384 (gC GE385 (gC GE392 gN)))) hb); (try clear hb); (try clear hk); obtain ⟨hcz49_0, hcz49_1, hfz49_0, hfz49_1⟩ := bC2 BK384) | ((with_reducible refine gate_callee (f := 48) rfl ?_); refine gl (some 28) Try.func48 #[.agg #[.slice A0_0 l0_0.length c0_0, .slice A0_1 l0_1.length c0_1]] ?_; (with_reducible refine (impl_cloneDisk.calls _ _ l0_0 _ _ l0_1 t398 t401 _ ?side1 ?side2 ?side3 ?side4 A30.out).mono ?_); (case side1 => exact cG (Kd.C_below HR0_0.out HB.out)); (case side2 => exact HC0_0.out); (case side3 => exact cG (Kd.C_below HR0_1.out HB.out)); (case side4 => exact HC0_1.out); rintro e w50 ⟨v399, v402, rfl, ho0, ho1, hb⟩; refine ⟨_, rfl, ?_⟩; replace HO400 := ak (Kd.R_lower (Kd.R_new' ho0 (Kd.R_lt (rG HO388))) (below_size (lT HB (gC GE384 (gC GE385 (gC GE392 gN)))))); replace HO388 := ak (Kd.R_elder' (rG HO388) (Kd.R_base ho0) hb); replace HO403 := ak (Kd.R_lower (Kd.R_new' ho1 (Kd.R_lt (rG HO395))) (below_size (lT HB (gC GE384 (gC GE385 (gC GE392 gN)))))); replace HO395 := ak (Kd.R_elder' (rG HO395) (Kd.R_base ho1) hb); replace BK384 := bB BK384 hb; replace BK385 := bB BK385 hb; replace BK392 := bB BK392 hb; replace HB := ak (below_step (lT HB (gC GE384 (gC GE385 (gC GE392 gN)))) hb); (try clear hb); (try clear hk); (try clear ho0); (try clear ho1); obtain ⟨Ao51, co51, eo51⟩ := Kd.R_slice HO400.out; subst eo51; obtain ⟨hcz52_0, hcz52_1, hfz52_0, hfz52_1⟩ := bC2 BK385; obtain ⟨Ao53, co53, eo53⟩ := Kd.R_slice HO403.out; subst eo53))
    refine bodyPost_ret (results_ct rfl _ _ gb385 27 #[.slice Ao51 t398.length co51, .slice Ao53 t401.length co53] (0, 0) _ rfl (bW BK385) Try.underlying27 rfl (by kernel_rfl)) rfl ?_
    exact ⟨_, _, ew, by exact Kd.R_mono (rT HO400 BK385 (by decide)) (fun _ hk => trivial), by exact Kd.R_mono (rT HO403 BK385 (by decide)) (fun _ hk => trivial), by exact lT HB (gC GE384 (gC GE385 (gC GE392 gN)))⟩
  ·replace c7 := Bool.eq_false_iff.mpr c7
   subst c7
   have H1 : ((impl_cloneDisk.f l0_0 l0_1).bind fun bt404 => (some (bt404.1, bt404.2, false))) = some (r1, r2, r3) := by rw [if_neg (show ¬ (false = true) by decide)] at H; exact H
   clear H
   have H := H1
   clear H1
   replace H := Option.bind_eq_some_iff.mp H
   obtain ⟨⟨t404, t407⟩, A540, H⟩ := H
   replace H : (some (t404, t407, false)) = some (r1, r2, r3) := H
   have A54 := Aside0.mk A540
   clear A540
   simp only [Option.some.injEq, Prod.mk.injEq] at H
   obtain ⟨rfl, rfl, rfl⟩ := H
   go_enter Try.func12, Try.ntmps12
   go_wp2_with (first | ((with_reducible refine gate_dst (N := 3) rfl ?_); refine bx 3 #[.slice A0_0 l0_0.length c0_0, .slice A0_1 l0_1.length c0_1] 27 ?_; intro gb384 hg w55 hbox hb; replace BK384 := ak (hbox); replace GW384 := ak (bz hg (lG HB)); replace GE384 := ak (bz hg (lG HB)); replace HB := lB HB hb; clear hb hbox hg) | ((with_reducible refine gate_dst (N := 6) rfl ?_); refine bx 6 #[.slice none 0 0, .slice none 0 0] 27 ?_; intro gb385 hg w56 hbox hb; replace BK385 := ak (hbox); replace GW385 := ak (bz hg (lT HB (gC GE384 gN))); replace GE385 := ak (bz hg (lT HB (gC GE384 gN))); replace HB := ak (below_step (lT HB (gC GE384 gN)) hb); replace NB384_385 := ak (nl hg (bG BK384)); replace NB385_384 := ak (ng hg (bG BK384)); replace BK384 := bB BK384 hb; clear hb hbox hg; have hnb57 := NB384_385.out; have hnc57 := NB385_384.out; obtain ⟨hcz58_0, hcz58_1, hfz58_0, hfz58_1⟩ := bC2 BK384) | ((with_reducible refine gate_callee (f := 48) rfl ?_); refine gl (some 10) Try.func48 #[.agg #[.slice A0_0 l0_0.length c0_0, .slice A0_1 l0_1.length c0_1]] ?_; (with_reducible refine (impl_cloneDisk.calls _ _ l0_0 _ _ l0_1 t386 t389 _ ?side1 ?side2 ?side3 ?side4 A4.out).mono ?_); (case side1 => exact cG (Kd.C_below HR0_0.out HB.out)); (case side2 => exact HC0_0.out); (case side3 => exact cG (Kd.C_below HR0_1.out HB.out)); (case side4 => exact HC0_1.out); rintro e w59 ⟨v387, v390, rfl, ho0, ho1, hb⟩; refine ⟨_, rfl, ?_⟩; replace HO388 := ak (Kd.R_lower ho0 (below_size (lT HB (gC GE384 (gC GE385 gN))))); replace HO391 := ak (Kd.R_lower ho1 (below_size (lT HB (gC GE384 (gC GE385 gN))))); replace BK384 := bB BK384 hb; replace BK385 := bB BK385 hb; replace HB := ak (below_step (lT HB (gC GE384 (gC GE385 gN))) hb); (try clear hb); (try clear hk); (try clear ho0); (try clear ho1)) | ((with_reducible refine gate_dst (N := 8) rfl ?_); refine bx 8 #[.slice none 0 0, .slice none 0 0] 27 ?_; intro gb392 hg w60 hbox hb; replace HO388 := rB HO388 hb; replace HO391 := rB HO391 hb; replace BK392 := ak (hbox); replace GW392 := ak (bz hg (lT HB (gC GE384 (gC GE385 gN)))); replace GE392 := ak (bz hg (lT HB (gC GE384 (gC GE385 gN)))); replace HB := ak (below_step (lT HB (gC GE384 (gC GE385 gN))) hb); replace NB384_392 := ak (nl hg (bG BK384)); replace NB392_384 := ak (ng hg (bG BK384)); replace BK384 := bB BK384 hb; replace NB385_392 := ak (nl hg (bG BK385)); replace NB392_385 := ak (ng hg (bG BK385)); replace BK385 := bB BK385 hb; clear hb hbox hg; obtain ⟨Ao61, co61, eo61⟩ := Kd.R_slice HO388.out; subst eo61; have hnb62 := NB392_384.out; have hnc62 := NB384_392.out; have hnb63 := NB392_385.out; have hnc63 := NB385_392.out; obtain ⟨hcz64_0, hcz64_1, hfz64_0, hfz64_1⟩ := bC2 BK392; obtain ⟨Ao65, co65, eo65⟩ := Kd.R_slice HO391.out; subst eo65) | ((with_reducible refine gate_builtin (b := .append) (xs := #[.tmp 12, .tmp 16]) rfl ?_); at_builtin; refine Kd.R_append k63 (w0 := w) w.heap.size rfl (.tmp 12) (.tmp 16) 25 63 (.agg #[(.int .i64 0), (.string ⟨#[]⟩)]) 24 rfl Try.underlying25 info63 rfl (by decide) (by omega) (.slice Ao65 t389.length co65) t389 (⟨a1, a2⟩ : S63) [.int .i64 a1, .string a2] (fun _ => True) (fun _ => False) rfl (by first | (go_simp; done) | (go_simp; rfl)) ?aP (fun _ hk => hk.elim) ?aF ?aO ?aB ?aS ?aL ?_; (case aP => exact k63_mkM _ _ _ (⟨a1, a2⟩ : S63)); (case aB => exact (lT HB (gC GE384 (gC GE385 (gC GE392 gN))))); (case aF => exact (fun _ _ => trivial)); (case aO => exact (by exact Kd.R_mono (rT HO391 BK392 (by decide)) (fun _ hk => trivial))); (case aS => exact (below_size (lT HB (gC GE384 (gC GE385 (gC GE392 gN)))))); (case aL => have := LMc5.out; omega); intro v394 w66 ho hb hg hat; rw [← Ny393.out] at ho; have n0_ := ak (blk_grown (g := gb384) (o := .cells #[.slice A0_0 l0_0.length c0_0, .slice A0_1 l0_1.length c0_1] 27 (0, 0)) (bT BK384 (nC NB384_392 nN)) hg (Kd.R_ne HO391.out BK384.out (by decide))); have n1_ := ak (blk_grown (g := gb385) (o := .cells #[.slice none 0 0, .slice none 0 0] 27 (0, 0)) (bT BK385 (nC NB385_392 nN)) hg (Kd.R_ne HO391.out BK385.out (by decide))); have n2_ := ak (Kd.R_over' (rT HO388 BK392 (by decide)) (Kd.R_typed (rT HO391 BK392 (by decide))) (by decide) hg); have n3_ := ak (blk_grown (g := gb392) (o := .cells #[.slice Ao61 t386.length co61, .slice Ao65 t389.length co65] 27 (0, 0)) (bW BK392) hg (Kd.R_ne HO391.out BK392.out (by decide))); have n4_ := ak (hb); have n5_ := ak (ho); clear BK384; clear BK385; clear HO388; clear BK392; clear HB; clear HO391; have BK384 := n0_; have BK385 := n1_; have HO388 := n2_; have BK392 := n3_; have HB := n4_; have HO395 := n5_; clear n0_ n1_ n2_ n3_ n4_ n5_; clear ho hb hg hat; obtain ⟨Ao67, co67, eo67⟩ := Kd.R_slice HO395.out; subst eo67; obtain ⟨hcz68_0, hcz68_1, hfz68_0, hfz68_1⟩ := bC2 BK392; obtain ⟨hcz69_0, hcz69_1, hfz69_0, hfz69_1⟩ := bC2 BK384) | ((with_reducible refine gate_callee (f := 16) rfl ?_); refine gl (some 20) Try.func16 #[.agg #[.slice A0_0 l0_0.length c0_0, .slice A0_1 l0_1.length c0_1]] ?_; (with_reducible refine (impl_DiskOk.calls _ _ l0_0 _ _ l0_1 false _ ?side1 ?side2 ?side3 ?side4 A6.out).mono ?_); (case side1 => exact Kd.C_below HR0_0.out (lT HB (gC GE384 (gC GE385 (gC GE392 gN))))); (case side2 => exact HC0_0.out); (case side3 => exact Kd.C_below HR0_1.out (lT HB (gC GE384 (gC GE385 (gC GE392 gN))))); (case side4 => exact HC0_1.out); rintro e w70 ⟨rfl, hb⟩; refine ⟨_, rfl, ?_⟩; replace HO388 := ak (Kd.R_below (rT HO388 BK392 (by decide)) hb); replace HO395 := ak (Kd.R_below (rT HO395 BK392 (by decide)) hb); replace BK384 := ak (blk_below (bT BK384 (nC NB384_392 nN)) hb); replace BK385 := ak (blk_below (bT BK385 (nC NB385_392 nN)) hb); replace BK392 := ak (blk_below (g := gb392) (o := .cells #[.slice Ao61 t386.length co61, .slice Ao67 y393.length co67] 27 (0, 0)) (bW BK392) hb); replace HB := ak (below_step (lT HB (gC GE384 (gC GE385 (gC GE392 gN)))) hb); (try clear hb); (try clear hk); obtain ⟨hcz71_0, hcz71_1, hfz71_0, hfz71_1⟩ := bC2 BK384) | ((with_reducible refine gate_callee (f := 48) rfl ?_); refine gl (some 28) Try.func48 #[.agg #[.slice A0_0 l0_0.length c0_0, .slice A0_1 l0_1.length c0_1]] ?_; (with_reducible refine (impl_cloneDisk.calls _ _ l0_0 _ _ l0_1 t404 t407 _ ?side1 ?side2 ?side3 ?side4 A54.out).mono ?_); (case side1 => exact cG (Kd.C_below HR0_0.out HB.out)); (case side2 => exact HC0_0.out); (case side3 => exact cG (Kd.C_below HR0_1.out HB.out)); (case side4 => exact HC0_1.out); rintro e w72 ⟨v405, v408, rfl, ho0, ho1, hb⟩; refine ⟨_, rfl, ?_⟩; replace HO406 := ak (Kd.R_lower (Kd.R_new' ho0 (Kd.R_lt (rG HO388))) (below_size (lT HB (gC GE384 (gC GE385 (gC GE392 gN)))))); replace HO388 := ak (Kd.R_elder' (rG HO388) (Kd.R_base ho0) hb); replace HO409 := ak (Kd.R_lower (Kd.R_new' ho1 (Kd.R_lt (rG HO395))) (below_size (lT HB (gC GE384 (gC GE385 (gC GE392 gN)))))); replace HO395 := ak (Kd.R_elder' (rG HO395) (Kd.R_base ho1) hb); replace BK384 := bB BK384 hb; replace BK385 := bB BK385 hb; replace BK392 := bB BK392 hb; replace HB := ak (below_step (lT HB (gC GE384 (gC GE385 (gC GE392 gN)))) hb); (try clear hb); (try clear hk); (try clear ho0); (try clear ho1); obtain ⟨Ao73, co73, eo73⟩ := Kd.R_slice HO406.out; subst eo73; obtain ⟨hcz74_0, hcz74_1, hfz74_0, hfz74_1⟩ := bC2 BK385; obtain ⟨Ao75, co75, eo75⟩ := Kd.R_slice HO409.out; subst eo75))
   refine bodyPost_ret (results_ct rfl _ _ gb385 27 #[.slice Ao73 t404.length co73, .slice Ao75 t407.length co75] (0, 0) _ rfl (bW BK385) Try.underlying27 rfl (by kernel_rfl)) rfl ?_
   exact ⟨_, _, ew, by exact Kd.R_mono (rT HO406 BK385 (by decide)) (fun _ hk => trivial), by exact Kd.R_mono (rT HO409 BK385 (by decide)) (fun _ hk => trivial), by exact lT HB (gC GE384 (gC GE385 (gC GE392 gN)))⟩
 ·rw [if_neg c5] at H
  exact absurd H (by simp)

/-! ### impl_ReadSector: function 15 -/
def impl_ReadSector.l0 : Nat → Int → ByteArray → List (S63) → Int → Int → Option (ByteArray × Bool)
 | 0, _, _, _, _, _ => none
 | k + 1, x1, x6, x22, x23, x24 => if x24 < x23 then (if 0 ≤ x24 then (if x24 < (x22.length : Int) then (if ((rd_T63 x22 x24).f0) = x1 then (impl_ReadSector.l0 k x1 ((rd_T63 x22 x24).f1) x22 x23 (wrap64 (x24 + 1))) else (impl_ReadSector.l0 k x1 x6 x22 x23 (wrap64 (x24 + 1)))) else (none)) else (none)) else (some (x6, true))
def impl_ReadSector.f (k : Nat) (l0_0 : List ByteArray) (l0_1 : List (S63)) (a1 : Int) : Option (ByteArray × Bool) := (impl_in.f a1 0 (wrap64 ((l0_0.length : Int) - 1))).bind fun t411 => (if t411 = true then (if 0 ≤ a1 then (if a1 < (l0_0.length : Int) then (impl_ReadSector.l0 k a1 (rdOf ByteArray.empty l0_0 a1) l0_1 (l0_1.length : Int) 0) else (none)) else (none)) else (some ((⟨#[]⟩ : ByteArray), false)))
theorem impl_ReadSector.mono_l : ∀ k, (∀ y0 y1 y2 y3 y4, LeO (impl_ReadSector.l0 k y0 y1 y2 y3 y4) (impl_ReadSector.l0 (k + 1) y0 y1 y2 y3 y4))
 | 0 => fun _ _ _ _ _ r h => by simp [impl_ReadSector.l0] at h
 | k + 1 => by
  have ih0 := impl_ReadSector.mono_l k
  ·intro y0 y1 y2 y3 y4
   unfold impl_ReadSector.l0
   repeat' first
   | (with_reducible exact ih0 _ _ _ _ _)
   | (with_reducible exact LeO.refl _)
   | (with_reducible exact LeO.none _)
   | (with_reducible refine LeO.ite ?_ ?_)
   | (with_reducible refine LeO.bind ?_ (fun _ => ?_))
   | exact ih0 _ _ _ _ _
   | exact LeO.none _
   | refine LeO.ite ?_ ?_
   | refine LeO.bind ?_ (fun _ => ?_)
theorem impl_ReadSector.mono : ∀ a0 a1 a2 k, LeO (impl_ReadSector.f k a0 a1 a2) (impl_ReadSector.f (k + 1) a0 a1 a2) := by
 intro a0 a1 a2 k
 have ih0 := impl_ReadSector.mono_l k
 unfold impl_ReadSector.f
 repeat' first
   | (with_reducible exact ih0 _ _ _ _ _)
   | (with_reducible exact LeO.refl _)
   | (with_reducible exact LeO.none _)
   | (with_reducible refine LeO.ite ?_ ?_)
   | (with_reducible refine LeO.bind ?_ (fun _ => ?_))
   | exact ih0 _ _ _ _ _
   | exact LeO.none _
   | refine LeO.ite ?_ ?_
   | refine LeO.bind ?_ (fun _ => ?_)
set_option maxHeartbeats 8000000 in
set_option maxRecDepth 100000 in
theorem impl_ReadSector.calls (k : Nat) (A0_0 : Option Addr) (c0_0 : Nat) (l0_0 : List ByteArray) (A0_1 : Option Addr) (c0_1 : Nat) (l0_1 : List (S63)) (a1 : Int) (r1 : ByteArray) (r2 : Bool) (w : World) (hr0_0 : Kd.C Kd.string w A0_0 l0_0.length l0_0) (hc0_0 : l0_0.length ≤ c0_0) (hr0_1 : Kd.C k63 w A0_1 l0_1.length l0_1) (hc0_1 : l0_1.length ≤ c0_1) (h : impl_ReadSector.f k l0_0 l0_1 a1 = some (r1, r2)) :
  Calls Try.prog 15 #[.agg #[.slice A0_0 l0_0.length c0_0, .slice A0_1 l0_1.length c0_1], .int .i64 a1] w fun e w' => e = .returned (.tuple #[.string r1, .bool r2]) ∧ Below w.heap.size w w' := by
 have hu27 := Try.underlying27
 have hu63 := Try.underlying63
 have HR0_0 := Aside0.mk hr0_0
 have HC0_0 := Aside0.mk hc0_0
 clear hr0_0 hc0_0
 have HR0_1 := Aside0.mk hr0_1
 have HC0_1 := Aside0.mk hc0_1
 clear hr0_1 hc0_1
 have HB := ak (Below.refl w.heap.size w)
 have H : ((impl_in.f a1 0 (wrap64 ((l0_0.length : Int) - 1))).bind fun t411 => (if t411 = true then (if 0 ≤ a1 then (if a1 < (l0_0.length : Int) then (impl_ReadSector.l0 k a1 (rdOf ByteArray.empty l0_0 a1) l0_1 (l0_1.length : Int) 0) else (none)) else (none)) else (some ((⟨#[]⟩ : ByteArray), false)))) = some (r1, r2) := h
 clear h
 replace H := Option.bind_eq_some_iff.mp H
 obtain ⟨t411, A30, H⟩ := H
 replace H : (if t411 = true then (if 0 ≤ a1 then (if a1 < (l0_0.length : Int) then (impl_ReadSector.l0 k a1 (rdOf ByteArray.empty l0_0 a1) l0_1 (l0_1.length : Int) 0) else (none)) else (none)) else (some ((⟨#[]⟩ : ByteArray), false))) = some (r1, r2) := H
 have A3 := Aside0.mk A30
 clear A30
 by_cases c4 : t411 = true
 ·subst c4
  have H1 : (if 0 ≤ a1 then (if a1 < (l0_0.length : Int) then (impl_ReadSector.l0 k a1 (rdOf ByteArray.empty l0_0 a1) l0_1 (l0_1.length : Int) 0) else (none)) else (none)) = some (r1, r2) := by rw [if_pos rfl] at H; exact H
  clear H
  have H := H1
  clear H1
  by_cases c5 : 0 ≤ a1
  ·rw [if_pos c5] at H
   have c5b0 : decide (0 ≤ a1) = true := decide_eq_true c5
   clear c5
   by_cases c6 : a1 < (l0_0.length : Int)
   ·rw [if_pos c6] at H
    have c6b0 : decide (a1 < (l0_0.length : Int)) = true := decide_eq_true c6
    clear c6
    have H' := Aside0.mk H
    clear H
    go_enter Try.func15, Try.ntmps15
    go_wp2_with (first | ((with_reducible refine gate_dst (N := 2) rfl ?_); refine bx 2 #[.slice A0_0 l0_0.length c0_0, .slice A0_1 l0_1.length c0_1] 27 ?_; intro gb410 hg w7 hbox hb; replace BK410 := ak (hbox); replace GW410 := ak (bz hg (lG HB)); replace GE410 := ak (bz hg (lG HB)); replace HB := lB HB hb; clear hb hbox hg; obtain ⟨hcz8_0, hcz8_1, hfz8_0, hfz8_1⟩ := bC2 BK410) | ((with_reducible refine gate_callee (f := 50) rfl ?_); refine gl (some 14) Try.func50 #[.int .i64 a1, .int .i64 0, .int .i64 (wrap64 ((l0_0.length : Int) - 1))] ?_; (with_reducible refine (impl_in.calls a1 0 (wrap64 ((l0_0.length : Int) - 1)) true _ A3.out).mono ?_); rintro e w' ⟨rfl, ⟨nd, rfl⟩⟩; refine ⟨_, rfl, ?_⟩; have p412 : 0 ≤ (a1 : Int) := of_decide_eq_true (by first | (with_reducible assumption) | assumption); have q412 : a1 < (l0_0.length : Int) := of_decide_eq_true (by first | (with_reducible assumption) | assumption); obtain ⟨ad412, e412, hx412_0⟩ := Kd.at_string HR0_0.out a1 p412 q412; cases e412; replace hx412_0 := (HB.out.cell (World.block_lt_of_cell? w _ hx412_0)).trans hx412_0; replace p412 := eq_true p412; replace q412 := eq_true q412))
    go_loopg [6, 24] k (fun kq v6 v24 w' => ∃ (x6_1 : ByteArray) (x24_1 : Int), v6 = .string x6_1 ∧ v24 = .int .i64 x24_1 ∧ Aside0 (impl_ReadSector.l0 kq a1 x6_1 l0_1 (l0_1.length : Int) x24_1 = some (r1, r2)) ∧ Aside0 (kq ≤ k) ∧ Aside0 (w'.heap[gb410]? = some (.cells #[(.slice (some ad412) l0_0.length c0_0), (.slice A0_1 l0_1.length c0_1)] 27 (0, 0))) ∧ Aside0 (Below w.heap.size w w'))
    case atStart => exact ⟨(rdOf ByteArray.empty l0_0 a1), (0), (by first | rfl | (simp; done) | (simp [*]; done)), (by first | rfl | (simp; done) | (simp [*]; done)), H', ⟨Nat.le_refl _⟩, ⟨bG BK410⟩, ⟨by exact lT HB (gC GE410 gN)⟩⟩
    case round =>
     clear H'
     try clear c1
     try clear p2
     try clear c4
     try clear p4
     try clear q4
     try clear hx4
     try clear c5
     try clear c5b0
     try clear c6
     try clear c6b0
     try clear p6
     try clear hcz8_0
     try clear hcz8_1
     try clear hfz8_0
     try clear hfz8_1
     try clear hx412_0
     try clear p412
     try clear q412
     obtain ⟨x6_1, x24_1, rfl, rfl, HA, HK1, BK410, HB⟩ := hrel
     cases gk with
     | zero => exact absurd HA.out (by simp [impl_ReadSector.l0])
     | succ k1 =>
      have H := HA.out
      clear HA
      simp only [impl_ReadSector.l0] at H
      by_cases c9 : x24_1 < (l0_1.length : Int)
      ·rw [if_pos c9] at H
       have c9b0 : decide (x24_1 < (l0_1.length : Int)) = true := decide_eq_true c9
       clear c9
       by_cases c10 : 0 ≤ x24_1
       ·rw [if_pos c10] at H
        have c10b0 : decide (0 ≤ x24_1) = true := decide_eq_true c10
        clear c10
        by_cases c11 : x24_1 < (l0_1.length : Int)
        ·rw [if_pos c11] at H
         have c11b0 : decide (x24_1 < (l0_1.length : Int)) = true := decide_eq_true c11
         clear c11
         by_cases c12 : ((rd_T63 l0_1 x24_1).f0) = a1
         ·rw [if_pos c12] at H
          have c12b0 : (((rd_T63 l0_1 x24_1).f0) == a1) = true := beq_iff_eq.mpr c12
          have c12b1 : (((rd_T63 l0_1 x24_1).f0) != a1) = false := bne_eq_false_iff_eq.mpr c12
          clear c12
          have H' := Aside0.mk H
          clear H
          have p413 : 0 ≤ (x24_1 : Int) := of_decide_eq_true (by first | (with_reducible assumption) | assumption)
          have q413 : x24_1 < (l0_1.length : Int) := of_decide_eq_true (by first | (with_reducible assumption) | assumption)
          obtain ⟨ad413, e413, hx413_0, hx413_1⟩ := at_T63 HR0_1.out x24_1 p413 q413
          cases e413
          replace hx413_0 := (HB.out.cell (World.block_lt_of_cell? w _ hx413_0)).trans hx413_0
          replace hx413_1 := (HB.out.cell (World.block_lt_of_cell? w _ hx413_1)).trans hx413_1
          replace p413 := eq_true p413
          replace q413 := eq_true q413
          go_wp2_with (first | ((with_reducible refine gate_dst (N := 8) rfl ?_); refine bx 8 #[.int .i64 0, .string (⟨#[]⟩ : ByteArray)] 63 ?_; intro gb414 hg w13 hbox hb; replace BK414 := ak (hbox); replace GW414 := ak (bz hg (lT HB (gC GE410 gN))); replace GE414 := ak (bz hg (lT HB (gC GE410 gN))); replace HB := ak (below_step (lT HB (gC GE410 gN)) hb); replace NB410_414 := ak (nl hg (bG BK410)); replace NB414_410 := ak (ng hg (bG BK410)); replace BK410 := bB BK410 hb; clear hb hbox hg; have hnb14 := NB414_410.out; have hnc14 := NB410_414.out; obtain ⟨hcz15_0, hcz15_1, hfz15_0, hfz15_1⟩ := bC2 BK414))
          go_roundg k1
          case measure => have := HK1.out; omega
          case rel => exact ⟨((rd_T63 l0_1 x24_1).f1), (wrap64 (x24_1 + 1)), (by first | rfl | (simp; done) | (simp [*]; done)), (by first | rfl | (simp; done) | (simp [*]; done)), H', ⟨by have := HK1.out; omega⟩, ⟨by (with_reducible repeat (first | refine blk_drewN ?_ _ | refine blk_drew ?_ | refine blk_alloc ?_ _)); refine blk_far ?_ NB410_414.out _; (with_reducible repeat (first | refine blk_drewN ?_ _ | refine blk_drew ?_ | refine blk_alloc ?_ _)); refine blk_far ?_ NB410_414.out _; (with_reducible repeat (first | refine blk_drewN ?_ _ | refine blk_drew ?_ | refine blk_alloc ?_ _)); exact BK410.out⟩, ⟨by exact lT HB (gC GE410 (gC GE414 gN))⟩⟩
         ·rw [if_neg c12] at H
          have c12b0 : (((rd_T63 l0_1 x24_1).f0) == a1) = false := beq_eq_false_iff_ne.mpr c12
          have c12b1 : (((rd_T63 l0_1 x24_1).f0) != a1) = true := bne_iff_ne.mpr c12
          have H' := Aside0.mk H
          clear H
          have p413 : 0 ≤ (x24_1 : Int) := of_decide_eq_true (by first | (with_reducible assumption) | assumption)
          have q413 : x24_1 < (l0_1.length : Int) := of_decide_eq_true (by first | (with_reducible assumption) | assumption)
          obtain ⟨ad413, e413, hx413_0, hx413_1⟩ := at_T63 HR0_1.out x24_1 p413 q413
          cases e413
          replace hx413_0 := (HB.out.cell (World.block_lt_of_cell? w _ hx413_0)).trans hx413_0
          replace hx413_1 := (HB.out.cell (World.block_lt_of_cell? w _ hx413_1)).trans hx413_1
          replace p413 := eq_true p413
          replace q413 := eq_true q413
          go_wp2_with (first | ((with_reducible refine gate_dst (N := 8) rfl ?_); refine bx 8 #[.int .i64 0, .string (⟨#[]⟩ : ByteArray)] 63 ?_; intro gb414 hg w16 hbox hb; replace BK414 := ak (hbox); replace GW414 := ak (bz hg (lT HB (gC GE410 gN))); replace GE414 := ak (bz hg (lT HB (gC GE410 gN))); replace HB := ak (below_step (lT HB (gC GE410 gN)) hb); replace NB410_414 := ak (nl hg (bG BK410)); replace NB414_410 := ak (ng hg (bG BK410)); replace BK410 := bB BK410 hb; clear hb hbox hg; have hnb17 := NB414_410.out; have hnc17 := NB410_414.out; obtain ⟨hcz18_0, hcz18_1, hfz18_0, hfz18_1⟩ := bC2 BK414))
          go_roundg k1
          case measure => have := HK1.out; omega
          case rel => exact ⟨(x6_1), (wrap64 (x24_1 + 1)), (by first | rfl | (simp; done) | (simp [*]; done)), (by first | rfl | (simp; done) | (simp [*]; done)), H', ⟨by have := HK1.out; omega⟩, ⟨by (with_reducible repeat (first | refine blk_drewN ?_ _ | refine blk_drew ?_ | refine blk_alloc ?_ _)); refine blk_far ?_ NB410_414.out _; (with_reducible repeat (first | refine blk_drewN ?_ _ | refine blk_drew ?_ | refine blk_alloc ?_ _)); refine blk_far ?_ NB410_414.out _; (with_reducible repeat (first | refine blk_drewN ?_ _ | refine blk_drew ?_ | refine blk_alloc ?_ _)); exact BK410.out⟩, ⟨by exact lT HB (gC GE410 (gC GE414 gN))⟩⟩
        ·rw [if_neg c11] at H
         exact absurd H (by simp)
       ·rw [if_neg c10] at H
        exact absurd H (by simp)
      ·rw [if_neg c9] at H
       have c9b0 : decide (x24_1 < (l0_1.length : Int)) = false := decide_eq_false c9
       clear c9
       simp only [Option.some.injEq, Prod.mk.injEq] at H
       obtain ⟨rfl, rfl⟩ := H
       go_wp2
       go_ret2
       exact ⟨ew, by exact lT HB (gC GE410 gN)⟩
   ·rw [if_neg c6] at H
    exact absurd H (by simp)
  ·rw [if_neg c5] at H
   exact absurd H (by simp)
 ·replace c4 := Bool.eq_false_iff.mpr c4
  subst c4
  have H1 : (some ((⟨#[]⟩ : ByteArray), false)) = some (r1, r2) := by rw [if_neg (show ¬ (false = true) by decide)] at H; exact H
  clear H
  have H := H1
  clear H1
  simp only [Option.some.injEq, Prod.mk.injEq] at H
  obtain ⟨rfl, rfl⟩ := H
  go_enter Try.func15, Try.ntmps15
  go_wp2_with (first | ((with_reducible refine gate_dst (N := 2) rfl ?_); refine bx 2 #[.slice A0_0 l0_0.length c0_0, .slice A0_1 l0_1.length c0_1] 27 ?_; intro gb410 hg w19 hbox hb; replace BK410 := ak (hbox); replace GW410 := ak (bz hg (lG HB)); replace GE410 := ak (bz hg (lG HB)); replace HB := lB HB hb; clear hb hbox hg; obtain ⟨hcz20_0, hcz20_1, hfz20_0, hfz20_1⟩ := bC2 BK410) | ((with_reducible refine gate_callee (f := 50) rfl ?_); refine gl (some 14) Try.func50 #[.int .i64 a1, .int .i64 0, .int .i64 (wrap64 ((l0_0.length : Int) - 1))] ?_; (with_reducible refine (impl_in.calls a1 0 (wrap64 ((l0_0.length : Int) - 1)) false _ A3.out).mono ?_); rintro e w' ⟨rfl, ⟨nd, rfl⟩⟩; refine ⟨_, rfl, ?_⟩))
  go_ret2
  exact ⟨ew, by exact lT HB (gC GE410 gN)⟩

end Go.Proofs.Ytjpngldnkgofaaa.PFnSegments
