-- Written for this claim by a program of mine (a turned copy of the kit's print): functions as plain Lean, and their contracts. Lean checks it.
import Derived.Test.YtjpngldnkgofaaaPFnTornx0
import Derived.Test.YtjpngldnkgofaaaPFnTornx9
import Derived.Test.YtjpngldnkgofaaaVFnTorn1
namespace Go.Proofs.Ytjpngldnkgofaaa.PFnTorn
open Go.RowKit Go.Proofs.YtjpngldnkgofaaaW.PrintWords Go.Proofs.YtjpngldnkgofaaaW.PrintLast Go.Proofs.YtjpngldnkgofaaaW.PrintMore
attribute [local go_sem] max2_int min2_int max_two min_two max_three min_three max_four min_four   -- for this text's walks alone
set_option linter.unusedVariables false
set_option linter.unusedSimpArgs false

/-! ### impl_cloneDisk: function 48 -/
def impl_cloneDisk.f (l0_0 : List ByteArray) (l0_1 : List (S63)) : Option (List ByteArray × (List (S63))) := (slices_Clone_string_string.f l0_0).bind fun t319 => ((impl_Write_75.f l0_1).bind fun t322 => (some (t319, t322)))
def impl_cloneDisk.T1 : Bool × List (List Nat × List Nat) := (true, [([], []), ([0], [0]), ([1], [1]), ([], []), ([3], [3]), ([4, 2], [4]), ([2, 5], [2, 5]), ([6, 5, 0, 1, 2, 3, 4, 5, 6], [6])])
def impl_cloneDisk.B1 : List Nat := [0, 1, 3, 0, 8, 31, 63, 127]
theorem impl_cloneDisk.tab1 : rtab .any (opsOf Try.f48 1) = impl_cloneDisk.T1 := by kernel_rfl
theorem impl_cloneDisk.bits1 : waitsOk impl_cloneDisk.T1.2 impl_cloneDisk.B1 = true := by kernel_rfl
set_option maxHeartbeats 8000000 in
set_option maxRecDepth 100000 in
theorem impl_cloneDisk.calls (A0_0 : Option Addr) (c0_0 : Nat) (l0_0 : List ByteArray) (A0_1 : Option Addr) (c0_1 : Nat) (l0_1 : List (S63)) (r1 : List ByteArray) (r2 : List (S63)) (w : World) (hr0_0 : Kd.C Kd.string w A0_0 l0_0.length l0_0) (hc0_0 : l0_0.length ≤ c0_0) (hr0_1 : Kd.C k63 w A0_1 l0_1.length l0_1) (hc0_1 : l0_1.length ≤ c0_1) (h : impl_cloneDisk.f l0_0 l0_1 = some (r1, r2)) :
  Calls Try.prog 48 #[.agg #[.slice A0_0 l0_0.length c0_0, .slice A0_1 l0_1.length c0_1]] w fun e w' => ∃ v0_ v1_ : Value, e = .returned (.agg #[v0_, v1_]) ∧ Kd.R Kd.string 9 w' w.heap.size (fun _ => True) v0_ r1 ∧ Kd.R k63 63 w' w.heap.size (fun _ => True) v1_ r2 ∧ Below w.heap.size w w' := by
 have hu27 := Try.underlying27
 have HR0_0 := Aside0.mk hr0_0
 have HC0_0 := Aside0.mk hc0_0
 clear hr0_0 hc0_0
 have HR0_1 := Aside0.mk hr0_1
 have HC0_1 := Aside0.mk hc0_1
 clear hr0_1 hc0_1
 have HB := ak (Below.refl w.heap.size w)
 have H : ((slices_Clone_string_string.f l0_0).bind fun t319 => ((impl_Write_75.f l0_1).bind fun t322 => (some (t319, t322)))) = some (r1, r2) := h
 clear h
 replace H := Option.bind_eq_some_iff.mp H
 obtain ⟨t319, A20, H⟩ := H
 replace H : ((impl_Write_75.f l0_1).bind fun t322 => (some (t319, t322))) = some (r1, r2) := H
 have A2 := Aside0.mk A20
 clear A20
 replace H := Option.bind_eq_some_iff.mp H
 obtain ⟨t322, A30, H⟩ := H
 replace H : (some (t319, t322)) = some (r1, r2) := H
 have A3 := Aside0.mk A30
 clear A30
 simp only [Option.some.injEq, Prod.mk.injEq] at H
 obtain ⟨rfl, rfl⟩ := H
 go_enter Try.func48, Try.ntmps48
 try go_wp2_with (first | ((with_reducible refine gate_dst (N := 1) rfl ?_); refine box_event ?hg (N := 1) ?hd (cs := #[.slice A0_0 l0_0.length c0_0, .slice A0_1 l0_1.length c0_1]) (t := 27) ?hr ?_; (case hd => rfl); (case hg => rfl); (case hr => first | (go_simp; done) | (go_simp; rfl)); intro gb317 hg w4 hbox hb; replace BK317 := ak (hbox); replace GW317 := ak ((by rw [hg]; exact (below_size (lG HB)) : w.heap.size ≤ gb317)); replace GE317 := ak ((by rw [hg]; exact (below_size (lG HB)) : w.heap.size ≤ gb317)); replace HB := lB HB hb; clear hb hbox hg) | ((with_reducible refine gate_dst (N := 2) rfl ?_); refine box_event ?hg (N := 2) ?hd (cs := #[.slice none 0 0, .slice none 0 0]) (t := 27) ?hr ?_; (case hd => rfl); (case hg => rfl); (case hr => first | (go_simp; done) | (go_simp; rfl)); intro gb318 hg w5 hbox hb; replace BK318 := ak (hbox); replace GW318 := ak ((by rw [hg]; exact (below_size (lT HB (gC GE317 gN))) : w.heap.size ≤ gb318)); replace GE318 := ak ((by rw [hg]; exact (below_size (lT HB (gC GE317 gN))) : w.heap.size ≤ gb318)); replace HB := ak (below_step (lT HB (gC GE317 gN)) hb); replace NB317_318 := ak ((by rw [hg]; exact Nat.ne_of_lt (blk_lt (bG BK317)) : gb317 ≠ gb318)); replace NB318_317 := ak ((by rw [hg]; exact Nat.ne_of_gt (blk_lt (bG BK317)) : gb318 ≠ gb317)); replace BK317 := bB BK317 hb; clear hb hbox hg))
 replace BK317 := ak (blk_drew BK317.out)
 replace BK318 := ak (blk_drew BK318.out)
 replace HB := ak (below_drew1 HB.out)
 refine start_ (n := 8) (S := fun w' => w'.cell? ⟨gb317, 0, none⟩ = some (.slice A0_0 l0_0.length c0_0) ∧ w'.cell? ⟨gb317, 1, none⟩ = some (.slice A0_1 l0_1.length c0_1)) (ds := []) #[f_,f_,f_,f_,f_,f_,f_,f_] (by kernel_rfl) rfl rfl ⟨(blk_cell BK317.out 0).trans rfl, (blk_cell BK317.out 1).trans rfl⟩ (fun hHeld => ?_); refine with_tabW impl_cloneDisk.tab1 impl_cloneDisk.bits1 (fun HT_ HW_ => ?_)
 generalize w5.drew = w6 at BK317 BK318 HB hHeld ⊢
 refine pure_ (i := 0) (N := some 3) (v := ?_) (a' := ?_) #[t_,f_,f_,f_,f_,f_,f_,f_] rfl rfl (any_of HT_.out (by kernel_rfl)) (fun _ _ _ h => h) (Or.inl ⟨by rfl, ?_⟩) ?_ ?_
 rotate_left
 ·intro w'
  go_simp
  with_reducible rfl
 rotate_left
 ·simp only [Act.put, List.setIfInBounds_toArray, List.set_cons_zero, List.set_cons_succ, i64_w, i32_w]
  rfl
 refine pure_ (i := 3) (N := some 6) (v := ?_) (a' := ?_) #[t_,f_,f_,t_,f_,f_,f_,f_] rfl rfl (any_of HT_.out (by kernel_rfl)) (fun _ _ _ h => h) (Or.inl ⟨by rfl, ?_⟩) ?_ ?_
 rotate_left
 ·intro w'
  go_simp
  with_reducible rfl
 rotate_left
 ·simp only [Act.put, List.setIfInBounds_toArray, List.set_cons_zero, List.set_cons_succ, i64_w, i32_w]
  rfl
 refine take_ (i := 1) (N := some 4) (v := ?_) (a' := ?_) #[t_,t_,f_,t_,f_,f_,f_,f_] rfl rfl (take_ofW HT_.out HW_.out (by kernel_rfl)) (fun _ _ _ h => h) (Or.inl ⟨by rfl, ?_⟩) hHeld ?_ ?_
 rotate_left
 ·rintro w' ⟨s0, s1⟩
  go_simp
  with_reducible rfl
 rotate_left
 ·simp only [Act.put, List.setIfInBounds_toArray, List.set_cons_zero, List.set_cons_succ, i64_w, i32_w]
  rfl
 refine take_ (i := 4) (N := some 7) (v := ?_) (a' := ?_) #[t_,t_,f_,t_,t_,f_,f_,f_] rfl rfl (take_ofW HT_.out HW_.out (by kernel_rfl)) (fun _ _ _ h => h) (Or.inl ⟨by rfl, ?_⟩) hHeld ?_ ?_
 rotate_left
 ·rintro w' ⟨s0, s1⟩
  go_simp
  with_reducible rfl
 rotate_left
 ·simp only [Act.put, List.setIfInBounds_toArray, List.set_cons_zero, List.set_cons_succ, i64_w, i32_w]
  rfl
 refine one_ (i := 2) (N := some 5) #[t_,t_,t_,t_,t_,f_,f_,f_] rfl rfl (one_of HT_.out (by kernel_rfl)) (by decide) (fun K hK => ?_)
 refine goes_ Try.func74 (by kernel_rfl) rfl #[.slice A0_0 l0_0.length c0_0] (by rfl) rfl rfl (by (try simp only [List.map_toArray, List.map_cons, List.map_nil]); first | done | rfl | (simp only [List.length_drop, List.length_take]; rfl)) ?_
 with_reducible refine (slices_Clone_string_string.calls _ _ l0_0 t319 _ ?side1 ?side2 A2.out).mono ?_
 (case side1 => exact cG (Kd.C_below HR0_0.out HB.out))
 (case side2 => exact HC0_0.out)
 rintro e w7 ⟨v320, rfl, ho0, hb⟩
 refine ⟨_, rfl, ?_⟩
 replace HO321 := ak (Kd.R_lower ho0 (below_size (lT HB (gC GE317 (gC GE318 gN)))))
 replace BK317 := bB BK317 hb
 replace BK318 := bB BK318 hb
 replace HB := ak (below_step (lT HB (gC GE317 (gC GE318 gN))) hb)
 (try clear hb)
 (try clear hb2)
 (try clear hk)
 (try clear hi)
 (try clear ho0)
 refine hK.out _ _ ⟨(blk_cell BK317.out 0).trans rfl, (blk_cell BK317.out 1).trans rfl⟩ (fun hHeld => ?_)
 clear hK K
 refine norm_ (a' := ?_) ?_ ?_
 rotate_left
 ·show Act.put _ (some 5) _ = _
  simp only [Act.put, List.setIfInBounds_toArray, List.set_cons_zero, List.set_cons_succ, i64_w, i32_w]
  rfl
 refine one_ (i := 5) (N := some 8) #[t_,t_,t_,t_,t_,t_,f_,f_] rfl rfl (one_of HT_.out (by kernel_rfl)) (by decide) (fun K hK => ?_)
 refine goes_ Try.func75 (by kernel_rfl) rfl #[.slice A0_1 l0_1.length c0_1] (by rfl) rfl rfl (by (try simp only [List.map_toArray, List.map_cons, List.map_nil]); first | done | rfl | (simp only [List.length_drop, List.length_take]; rfl)) ?_
 with_reducible refine (impl_Write_75.calls _ _ l0_1 t322 _ ?side1 ?side2 A3.out).mono ?_
 (case side1 => exact cG (Kd.C_below HR0_1.out HB.out))
 (case side2 => exact HC0_1.out)
 rintro e w8 ⟨v323, rfl, ho0, hb⟩
 refine ⟨_, rfl, ?_⟩
 replace HO321 := rB HO321 hb
 replace HO324 := ak (Kd.R_lower ho0 (below_size (lT HB (gC GE317 (gC GE318 gN)))))
 replace BK317 := bB BK317 hb
 replace BK318 := bB BK318 hb
 replace HB := ak (below_step (lT HB (gC GE317 (gC GE318 gN))) hb)
 (try clear hb)
 (try clear hb2)
 (try clear hk)
 (try clear hi)
 (try clear ho0)
 obtain ⟨Ao9, co9, eo9⟩ := Kd.R_slice HO324.out
 (first | subst eo9 | (injection eo9 with f1_ f2_ f3_; have f4_ := f1_.symm; have f5_ := f3_.symm; clear f1_ f2_ f3_; subst f4_; subst f5_))
 obtain ⟨Ao10, co10, eo10⟩ := Kd.R_slice HO321.out
 (first | subst eo10 | (injection eo10 with f1_ f2_ f3_; have f4_ := f1_.symm; have f5_ := f3_.symm; clear f1_ f2_ f3_; subst f4_; subst f5_))
 refine hK.out _ _ ⟨(blk_cell BK317.out 0).trans rfl, (blk_cell BK317.out 1).trans rfl⟩ (fun hHeld => ?_)
 clear hK K
 refine norm_ (a' := ?_) ?_ ?_
 rotate_left
 ·show Act.put _ (some 8) _ = _
  simp only [Act.put, List.setIfInBounds_toArray, List.set_cons_zero, List.set_cons_succ, i64_w, i32_w]
  rfl
 refine pure_ (i := 6) (N := some 9) (v := ?_) (a' := ?_) #[t_,t_,t_,t_,t_,t_,t_,f_] rfl rfl (any_of HT_.out (by kernel_rfl)) (fun _ _ _ h => h) (Or.inl ⟨by rfl, ?_⟩) ?_ ?_
 rotate_left
 ·intro w'
  go_simp
  with_reducible rfl
 rotate_left
 ·simp only [Act.put, List.setIfInBounds_toArray, List.set_cons_zero, List.set_cons_succ, i64_w, i32_w]
  rfl
 refine one_ (i := 7) (N := none) #[t_,t_,t_,t_,t_,t_,t_,t_] rfl rfl (one_of HT_.out (by kernel_rfl)) (by decide) (fun K hK => ?_)
 have hs11 : w8.cell? ⟨gb318, 0, none⟩ = some (.slice none 0 0) := (blk_cell BK318.out 0).trans rfl
 have hfs11 := blk_frozen BK318.out 0
 have hns11_0 := NB317_318.out
 have hms11_0 := NB318_317.out
 have hs12 : w8.cell? ⟨gb318, 1, none⟩ = some (.slice none 0 0) := (blk_cell BK318.out 1).trans rfl
 have hfs12 := blk_frozen BK318.out 1
 have hns12_0 := NB317_318.out
 have hms12_0 := NB318_317.out
 refine skip_ (w1 := ?_) (by rfl) rfl ?_ ?_
 rotate_left
 ·go_simp
  rfl
 refine hK.out _ _ ⟨((cell_far (p := ⟨gb318, _, none⟩) NB317_318.out _).trans (((cell_far (p := ⟨gb318, _, none⟩) NB317_318.out _).trans (hHeld.1)))), ((cell_far (p := ⟨gb318, _, none⟩) NB317_318.out _).trans (((cell_far (p := ⟨gb318, _, none⟩) NB317_318.out _).trans (hHeld.2))))⟩ (fun hHeld => ?_)
 clear hK K
 refine done_ (done_of HT_.out (by kernel_rfl)) ?_
 try go_wp2
 refine bodyPost_ret (results_cell_row rfl _ _ gb318 27 #[.slice Ao10 t319.length co10, .slice Ao9 t322.length co9] (0, 0) _ rfl (by (with_reducible repeat (first | refine blk_drewN ?_ _ | refine blk_drew ?_ | refine blk_alloc ?_ _)); refine blk_put (cs := #[.slice Ao10 t319.length co10, .slice none 0 0]) ?_ 1 _ rfl; (with_reducible repeat (first | refine blk_drewN ?_ _ | refine blk_drew ?_ | refine blk_alloc ?_ _)); refine blk_put (cs := #[.slice none 0 0, .slice none 0 0]) ?_ 0 _ rfl; (with_reducible repeat (first | refine blk_drewN ?_ _ | refine blk_drew ?_ | refine blk_alloc ?_ _)); exact BK318.out) Try.underlying27 rfl (by kernel_rfl)) rfl ?_
 exact ⟨_, _, by first | rfl | (simp [errW_none, errW_some] <;> rfl) | (simp [*, errW_none, errW_some] <;> rfl), by (with_reducible repeat (first | apply Kd.R_alloc | apply Kd.R_drewN | apply Kd.R_drew)); exact Kd.R_mono (Kd.R_far (p := ⟨gb318, 1, none⟩) (Kd.R_far (p := ⟨gb318, 0, none⟩) (Kd.R_types HO321.out BK318.out (by decide)) (fun _ hk => hk.2) (.slice Ao10 t319.length co10)) (fun _ hk => hk.2) (.slice Ao9 t322.length co9)) (fun _ hk => trivial), by (with_reducible repeat (first | apply Kd.R_alloc | apply Kd.R_drewN | apply Kd.R_drew)); exact Kd.R_mono (Kd.R_far (p := ⟨gb318, 1, none⟩) (Kd.R_far (p := ⟨gb318, 0, none⟩) (Kd.R_types HO324.out BK318.out (by decide)) (fun _ hk => hk.2) (.slice Ao10 t319.length co10)) (fun _ hk => hk.2) (.slice Ao9 t322.length co9)) (fun _ hk => trivial), by exact lT HB (gC GE317 (gC GE318 gN))⟩

/-! ### impl_WriteSector: function 12 -/
def impl_WriteSector.f (l0_0 : List ByteArray) (l0_1 : List (S63)) (a1 : Int) (a2 : ByteArray) : Option (List ByteArray × (List (S63)) × Bool) := (impl_cloneDisk.f l0_0 l0_1).bind fun bt327 => (if bt327.2.length < 5864062014805 then ((some (bt327.2 ++ [(⟨a1, a2⟩ : S63)] : List (S63))).bind fun y334 => ((impl_DiskOk.f l0_0 l0_1).bind fun t337 => (if t337 = true then ((impl_DiskOk.f bt327.1 y334).bind fun t338 => (if t338 = true then (some (bt327.1, y334, true)) else ((impl_cloneDisk.f l0_0 l0_1).bind fun bt339 => (some (bt339.1, bt339.2, false))))) else ((impl_cloneDisk.f l0_0 l0_1).bind fun bt345 => (some (bt345.1, bt345.2, false)))))) else (none))
set_option maxHeartbeats 8000000 in
set_option maxRecDepth 100000 in
theorem impl_WriteSector.calls (A0_0 : Option Addr) (c0_0 : Nat) (l0_0 : List ByteArray) (A0_1 : Option Addr) (c0_1 : Nat) (l0_1 : List (S63)) (a1 : Int) (a2 : ByteArray) (r1 : List ByteArray) (r2 : List (S63)) (r3 : Bool) (w : World) (hr0_0 : Kd.C Kd.string w A0_0 l0_0.length l0_0) (hc0_0 : l0_0.length ≤ c0_0) (hr0_1 : Kd.C k63 w A0_1 l0_1.length l0_1) (hc0_1 : l0_1.length ≤ c0_1) (h : impl_WriteSector.f l0_0 l0_1 a1 a2 = some (r1, r2, r3)) :
  Calls Try.prog 12 #[.agg #[.slice A0_0 l0_0.length c0_0, .slice A0_1 l0_1.length c0_1], .int .i64 a1, .string a2] w fun e w' => ∃ v0_ v1_ : Value, e = .returned (.tuple #[.agg #[v0_, v1_], .bool r3]) ∧ Kd.R Kd.string 9 w' w.heap.size (fun _ => True) v0_ r1 ∧ Kd.R k63 63 w' w.heap.size (fun _ => True) v1_ r2 ∧ Below w.heap.size w w' := by
 have hu27 := Try.underlying27
 have hu63 := Try.underlying63
 have HR0_0 := Aside0.mk hr0_0
 have HC0_0 := Aside0.mk hc0_0
 clear hr0_0 hc0_0
 have HR0_1 := Aside0.mk hr0_1
 have HC0_1 := Aside0.mk hc0_1
 clear hr0_1 hc0_1
 have HB := ak (Below.refl w.heap.size w)
 have H : ((impl_cloneDisk.f l0_0 l0_1).bind fun bt327 => (if bt327.2.length < 5864062014805 then ((some (bt327.2 ++ [(⟨a1, a2⟩ : S63)] : List (S63))).bind fun y334 => ((impl_DiskOk.f l0_0 l0_1).bind fun t337 => (if t337 = true then ((impl_DiskOk.f bt327.1 y334).bind fun t338 => (if t338 = true then (some (bt327.1, y334, true)) else ((impl_cloneDisk.f l0_0 l0_1).bind fun bt339 => (some (bt339.1, bt339.2, false))))) else ((impl_cloneDisk.f l0_0 l0_1).bind fun bt345 => (some (bt345.1, bt345.2, false)))))) else (none))) = some (r1, r2, r3) := h
 clear h
 replace H := Option.bind_eq_some_iff.mp H
 obtain ⟨⟨t327, t330⟩, A40, H⟩ := H
 replace H : (if t330.length < 5864062014805 then ((some (t330 ++ [(⟨a1, a2⟩ : S63)] : List (S63))).bind fun y334 => ((impl_DiskOk.f l0_0 l0_1).bind fun t337 => (if t337 = true then ((impl_DiskOk.f t327 y334).bind fun t338 => (if t338 = true then (some (t327, y334, true)) else ((impl_cloneDisk.f l0_0 l0_1).bind fun bt339 => (some (bt339.1, bt339.2, false))))) else ((impl_cloneDisk.f l0_0 l0_1).bind fun bt345 => (some (bt345.1, bt345.2, false)))))) else (none)) = some (r1, r2, r3) := H
 have A4 := Aside0.mk A40
 clear A40
 by_cases c5 : t330.length < 5864062014805
 ·rw [if_pos c5] at H
  have LMc5 := Aside0.mk c5
  clear c5
  obtain ⟨y334, hy334⟩ : ∃ y_ : List (S63), y_ = (t330 ++ [(⟨a1, a2⟩ : S63)]) := ⟨_, rfl⟩
  replace H : ((impl_DiskOk.f l0_0 l0_1).bind fun t337 => (if t337 = true then ((impl_DiskOk.f t327 y334).bind fun t338 => (if t338 = true then (some (t327, y334, true)) else ((impl_cloneDisk.f l0_0 l0_1).bind fun bt339 => (some (bt339.1, bt339.2, false))))) else ((impl_cloneDisk.f l0_0 l0_1).bind fun bt345 => (some (bt345.1, bt345.2, false))))) = some (r1, r2, r3) := by first | (rw [hy334]; with_reducible exact H) | (have H2_ := (Option.bind_some _ _).symm.trans H; rw [hy334]; with_reducible exact H2_) | (have H2_ := (Option.bind_some _ _).symm.trans H; with_reducible exact H2_) | with_reducible exact H | (rw [hy334]; exact H) | exact H
  have Ny334 := Aside0.mk hy334
  clear hy334
  replace H := Option.bind_eq_some_iff.mp H
  obtain ⟨t337, A60, H⟩ := H
  replace H : (if t337 = true then ((impl_DiskOk.f t327 y334).bind fun t338 => (if t338 = true then (some (t327, y334, true)) else ((impl_cloneDisk.f l0_0 l0_1).bind fun bt339 => (some (bt339.1, bt339.2, false))))) else ((impl_cloneDisk.f l0_0 l0_1).bind fun bt345 => (some (bt345.1, bt345.2, false)))) = some (r1, r2, r3) := H
  have A6 := Aside0.mk A60
  clear A60
  by_cases c7 : t337 = true
  ·subst c7
   have H1 : ((impl_DiskOk.f t327 y334).bind fun t338 => (if t338 = true then (some (t327, y334, true)) else ((impl_cloneDisk.f l0_0 l0_1).bind fun bt339 => (some (bt339.1, bt339.2, false))))) = some (r1, r2, r3) := by rw [if_pos rfl] at H; exact H
   clear H
   have H := H1
   clear H1
   replace H := Option.bind_eq_some_iff.mp H
   obtain ⟨t338, A80, H⟩ := H
   replace H : (if t338 = true then (some (t327, y334, true)) else ((impl_cloneDisk.f l0_0 l0_1).bind fun bt339 => (some (bt339.1, bt339.2, false)))) = some (r1, r2, r3) := H
   have A8 := Aside0.mk A80
   clear A80
   by_cases c9 : t338 = true
   ·subst c9
    have H1 : (some (t327, y334, true)) = some (r1, r2, r3) := by rw [if_pos rfl] at H; exact H
    clear H
    have H := H1
    clear H1
    simp only [Option.some.injEq, Prod.mk.injEq] at H
    obtain ⟨rfl, rfl, rfl⟩ := H
    go_enter Try.func12, Try.ntmps12
    go_wp2_with (first | ((with_reducible refine gate_dst (N := 3) rfl ?_); refine box_event ?hg (N := 3) ?hd (cs := #[.slice A0_0 l0_0.length c0_0, .slice A0_1 l0_1.length c0_1]) (t := 27) ?hr ?_; (case hd => rfl); (case hg => rfl); (case hr => first | (go_simp; done) | (go_simp; rfl)); intro gb325 hg w10 hbox hb; replace BK325 := ak (hbox); replace GW325 := ak ((by rw [hg]; exact (below_size (lG HB)) : w.heap.size ≤ gb325)); replace GE325 := ak ((by rw [hg]; exact (below_size (lG HB)) : w.heap.size ≤ gb325)); replace HB := lB HB hb; clear hb hbox hg) | ((with_reducible refine gate_dst (N := 6) rfl ?_); refine box_event ?hg (N := 6) ?hd (cs := #[.slice none 0 0, .slice none 0 0]) (t := 27) ?hr ?_; (case hd => rfl); (case hg => rfl); (case hr => first | (go_simp; done) | (go_simp; rfl)); intro gb326 hg w11 hbox hb; replace BK326 := ak (hbox); replace GW326 := ak ((by rw [hg]; exact (below_size (lT HB (gC GE325 gN))) : w.heap.size ≤ gb326)); replace GE326 := ak ((by rw [hg]; exact (below_size (lT HB (gC GE325 gN))) : w.heap.size ≤ gb326)); replace HB := ak (below_step (lT HB (gC GE325 gN)) hb); replace NB325_326 := ak ((by rw [hg]; exact Nat.ne_of_lt (blk_lt (bG BK325)) : gb325 ≠ gb326)); replace NB326_325 := ak ((by rw [hg]; exact Nat.ne_of_gt (blk_lt (bG BK325)) : gb326 ≠ gb325)); replace BK325 := bB BK325 hb; clear hb hbox hg; have hnb12 := NB325_326.out; have hnc12 := NB326_325.out; obtain ⟨hcz13_0, hcz13_1, hfz13_0, hfz13_1⟩ := bC2 BK325) | ((with_reducible refine gate_callee (f := 48) rfl ?_); refine goesL_ (some 10) rfl rfl Try.func48 (by kernel_rfl) rfl #[.agg #[.slice A0_0 l0_0.length c0_0, .slice A0_1 l0_1.length c0_1]] rfl (by (try simp only [List.map_toArray, List.map_cons, List.map_nil]); first | done | rfl | (simp only [List.length_drop, List.length_take]; rfl)) ?_; (with_reducible refine (impl_cloneDisk.calls _ _ l0_0 _ _ l0_1 t327 t330 _ ?side1 ?side2 ?side3 ?side4 A4.out).mono ?_); (case side1 => exact cG (Kd.C_below HR0_0.out HB.out)); (case side2 => exact HC0_0.out); (case side3 => exact cG (Kd.C_below HR0_1.out HB.out)); (case side4 => exact HC0_1.out); rintro e w14 ⟨v328, v331, rfl, ho0, ho1, hb⟩; refine ⟨_, rfl, ?_⟩; replace HO329 := ak (Kd.R_lower ho0 (below_size (lT HB (gC GE325 (gC GE326 gN))))); replace HO332 := ak (Kd.R_lower ho1 (below_size (lT HB (gC GE325 (gC GE326 gN))))); replace BK325 := bB BK325 hb; replace BK326 := bB BK326 hb; replace HB := ak (below_step (lT HB (gC GE325 (gC GE326 gN))) hb); (try clear hb); (try clear hb2); (try clear hk); (try clear hi); (try clear ho0); (try clear ho1)) | ((with_reducible refine gate_dst (N := 8) rfl ?_); refine box_event ?hg (N := 8) ?hd (cs := #[.slice none 0 0, .slice none 0 0]) (t := 27) ?hr ?_; (case hd => rfl); (case hg => rfl); (case hr => first | (go_simp; done) | (go_simp; rfl)); intro gb333 hg w15 hbox hb; replace HO329 := rB HO329 hb; replace HO332 := rB HO332 hb; replace BK333 := ak (hbox); replace GW333 := ak ((by rw [hg]; exact (below_size (lT HB (gC GE325 (gC GE326 gN)))) : w.heap.size ≤ gb333)); replace GE333 := ak ((by rw [hg]; exact (below_size (lT HB (gC GE325 (gC GE326 gN)))) : w.heap.size ≤ gb333)); replace HB := ak (below_step (lT HB (gC GE325 (gC GE326 gN))) hb); replace NB325_333 := ak ((by rw [hg]; exact Nat.ne_of_lt (blk_lt (bG BK325)) : gb325 ≠ gb333)); replace NB333_325 := ak ((by rw [hg]; exact Nat.ne_of_gt (blk_lt (bG BK325)) : gb333 ≠ gb325)); replace BK325 := bB BK325 hb; replace NB326_333 := ak ((by rw [hg]; exact Nat.ne_of_lt (blk_lt (bG BK326)) : gb326 ≠ gb333)); replace NB333_326 := ak ((by rw [hg]; exact Nat.ne_of_gt (blk_lt (bG BK326)) : gb333 ≠ gb326)); replace BK326 := bB BK326 hb; clear hb hbox hg; obtain ⟨Ao16, co16, eo16⟩ := Kd.R_slice HO329.out; subst eo16; have hnb17 := NB333_325.out; have hnc17 := NB325_333.out; have hnb18 := NB333_326.out; have hnc18 := NB326_333.out; obtain ⟨hcz19_0, hcz19_1, hfz19_0, hfz19_1⟩ := bC2 BK333; obtain ⟨Ao20, co20, eo20⟩ := Kd.R_slice HO332.out; subst eo20) | ((with_reducible refine gate_builtin (b := .append) (xs := #[.tmp 12, .tmp 16]) rfl ?_); at_builtin; refine Kd.R_append k63 (w0 := w) w.heap.size rfl (.tmp 12) (.tmp 16) 25 63 (.agg #[(.int .i64 0), (.string ⟨#[]⟩)]) 24 rfl Try.underlying25 info63 rfl (by decide) (by omega) (.slice Ao20 t330.length co20) t330 (⟨a1, a2⟩ : S63) [.int .i64 a1, .string a2] (fun _ => True) (fun _ => False) rfl (by first | (go_simp; done) | (go_simp; rfl)) ?aP (fun _ hk => hk.elim) ?aF ?aO ?aB ?aS ?aL ?_; (case aP => exact k63_mkM _ _ _ (⟨a1, a2⟩ : S63)); (case aB => exact (lT HB (gC GE325 (gC GE326 (gC GE333 gN))))); (case aF => exact (fun _ _ => trivial)); (case aO => exact (by (with_reducible repeat (first | apply Kd.R_alloc | apply Kd.R_drewN | apply Kd.R_drew)); exact Kd.R_mono (Kd.R_far (p := ⟨gb333, 1, none⟩) (Kd.R_far (p := ⟨gb333, 0, none⟩) (Kd.R_types HO332.out BK333.out (by decide)) (fun _ hk => hk.2) (.slice Ao16 t327.length co16)) (fun _ hk => hk.2) (.slice Ao20 t330.length co20)) (fun _ hk => trivial))); (case aS => exact (below_size (lT HB (gC GE325 (gC GE326 (gC GE333 gN)))))); (case aL => have := LMc5.out; omega); intro v335 w21 ho hb hg hat; rw [← Ny334.out] at ho; have n0_ := ak (blk_grown (g := gb325) (o := .cells #[.slice A0_0 l0_0.length c0_0, .slice A0_1 l0_1.length c0_1] 27 (0, 0)) (bT BK325 (nC NB325_333 nN)) hg (Kd.R_ne HO332.out BK325.out (by decide))); have n1_ := ak (blk_grown (g := gb326) (o := .cells #[.slice none 0 0, .slice none 0 0] 27 (0, 0)) (bT BK326 (nC NB326_333 nN)) hg (Kd.R_ne HO332.out BK326.out (by decide))); have n2_ := ak (Kd.R_over' (rT HO329 BK333 (by decide)) (Kd.R_typed (rT HO332 BK333 (by decide))) (by decide) hg); have n3_ := ak (blk_grown (g := gb333) (o := .cells #[.slice Ao16 t327.length co16, .slice Ao20 t330.length co20] 27 (0, 0)) (by (with_reducible repeat (first | refine blk_drewN ?_ _ | refine blk_drew ?_ | refine blk_alloc ?_ _)); refine blk_put (cs := #[.slice Ao16 t327.length co16, .slice none 0 0]) ?_ 1 _ rfl; (with_reducible repeat (first | refine blk_drewN ?_ _ | refine blk_drew ?_ | refine blk_alloc ?_ _)); refine blk_put (cs := #[.slice none 0 0, .slice none 0 0]) ?_ 0 _ rfl; (with_reducible repeat (first | refine blk_drewN ?_ _ | refine blk_drew ?_ | refine blk_alloc ?_ _)); exact BK333.out) hg (Kd.R_ne HO332.out BK333.out (by decide))); have n4_ := ak (hb); have n5_ := ak (ho); clear BK325; clear BK326; clear HO329; clear BK333; clear HB; clear HO332; have BK325 := n0_; have BK326 := n1_; have HO329 := n2_; have BK333 := n3_; have HB := n4_; have HO336 := n5_; clear n0_ n1_ n2_ n3_ n4_ n5_; clear ho hb hg hat; obtain ⟨Ao22, co22, eo22⟩ := Kd.R_slice HO336.out; subst eo22; obtain ⟨hcz23_0, hcz23_1, hfz23_0, hfz23_1⟩ := bC2 BK333; obtain ⟨hcz24_0, hcz24_1, hfz24_0, hfz24_1⟩ := bC2 BK325) | ((with_reducible refine gate_callee (f := 16) rfl ?_); refine goesL_ (some 20) rfl rfl Try.func16 (by kernel_rfl) rfl #[.agg #[.slice A0_0 l0_0.length c0_0, .slice A0_1 l0_1.length c0_1]] rfl (by (try simp only [List.map_toArray, List.map_cons, List.map_nil]); first | done | rfl | (simp only [List.length_drop, List.length_take]; rfl)) ?_; (with_reducible refine (impl_DiskOk.calls _ _ l0_0 _ _ l0_1 true _ ?side1 ?side2 ?side3 ?side4 A6.out).mono ?_); (case side1 => exact Kd.C_below HR0_0.out (lT HB (gC GE325 (gC GE326 (gC GE333 gN))))); (case side2 => exact HC0_0.out); (case side3 => exact Kd.C_below HR0_1.out (lT HB (gC GE325 (gC GE326 (gC GE333 gN))))); (case side4 => exact HC0_1.out); rintro e w25 ⟨rfl, hb⟩; refine ⟨_, rfl, ?_⟩; replace HO329 := ak (Kd.R_below (rT HO329 BK333 (by decide)) hb); replace HO336 := ak (Kd.R_below (rT HO336 BK333 (by decide)) hb); replace BK325 := ak (blk_below (bT BK325 (nC NB325_333 nN)) hb); replace BK326 := ak (blk_below (bT BK326 (nC NB326_333 nN)) hb); replace BK333 := ak (blk_below (g := gb333) (o := .cells #[.slice Ao16 t327.length co16, .slice Ao22 y334.length co22] 27 (0, 0)) (by (with_reducible repeat (first | refine blk_drewN ?_ _ | refine blk_drew ?_ | refine blk_alloc ?_ _)); refine blk_put (cs := #[.slice Ao16 t327.length co16, .slice Ao20 t330.length co20]) ?_ 1 _ rfl; (with_reducible repeat (first | refine blk_drewN ?_ _ | refine blk_drew ?_ | refine blk_alloc ?_ _)); exact BK333.out) hb); replace HB := ak (below_step (lT HB (gC GE325 (gC GE326 (gC GE333 gN)))) hb); (try clear hb); (try clear hb2); (try clear hk); (try clear hi); obtain ⟨hcz26_0, hcz26_1, hfz26_0, hfz26_1⟩ := bC2 BK333) | (go_at_call 16; (with_reducible refine (impl_DiskOk.calls _ _ t327 _ _ y334 true _ ?side1 ?side2 ?side3 ?side4 A8.out).mono ?_); (case side1 => exact cG (Kd.R_reads' HO329.out).2.2); (case side2 => exact (Kd.R_reads' HO329.out).2.1); (case side3 => exact cG (Kd.R_reads' HO336.out).2.2); (case side4 => exact (Kd.R_reads' HO336.out).2.1); rintro e w27 ⟨rfl, hb⟩; replace HO329 := rB HO329 hb; replace HO336 := rB HO336 hb; replace BK325 := bB BK325 hb; replace BK326 := bB BK326 hb; replace BK333 := bB BK333 hb; replace HB := ak (below_step (lT HB (gC GE325 (gC GE326 (gC GE333 gN)))) hb); (try clear hb); (try clear hb2); (try clear hk); (try clear hi); obtain ⟨hcz28_0, hcz28_1, hfz28_0, hfz28_1⟩ := bC2 BK333; obtain ⟨hcz29_0, hcz29_1, hfz29_0, hfz29_1⟩ := bC2 BK326))
    refine bodyPost_ret (results_ct rfl _ _ gb326 27 #[.slice Ao16 t327.length co16, .slice Ao22 y334.length co22] (0, 0) _ rfl (by (with_reducible repeat (first | refine blk_drewN ?_ _ | refine blk_drew ?_ | refine blk_alloc ?_ _)); refine blk_put (cs := #[.slice Ao16 t327.length co16, .slice none 0 0]) ?_ 1 _ rfl; (with_reducible repeat (first | refine blk_drewN ?_ _ | refine blk_drew ?_ | refine blk_alloc ?_ _)); refine blk_put (cs := #[.slice none 0 0, .slice none 0 0]) ?_ 0 _ rfl; (with_reducible repeat (first | refine blk_drewN ?_ _ | refine blk_drew ?_ | refine blk_alloc ?_ _)); exact BK326.out) Try.underlying27 rfl (by kernel_rfl)) rfl ?_
    exact ⟨_, _, by first | rfl | (simp [errW_none, errW_some] <;> rfl) | (simp [*, errW_none, errW_some] <;> rfl), by (with_reducible repeat (first | apply Kd.R_alloc | apply Kd.R_drewN | apply Kd.R_drew)); exact Kd.R_mono (Kd.R_far (p := ⟨gb326, 1, none⟩) (Kd.R_far (p := ⟨gb326, 0, none⟩) (Kd.R_types HO329.out BK326.out (by decide)) (fun _ hk => hk.2) (.slice Ao16 t327.length co16)) (fun _ hk => hk.2) (.slice Ao22 y334.length co22)) (fun _ hk => trivial), by (with_reducible repeat (first | apply Kd.R_alloc | apply Kd.R_drewN | apply Kd.R_drew)); exact Kd.R_mono (Kd.R_far (p := ⟨gb326, 1, none⟩) (Kd.R_far (p := ⟨gb326, 0, none⟩) (Kd.R_types HO336.out BK326.out (by decide)) (fun _ hk => hk.2) (.slice Ao16 t327.length co16)) (fun _ hk => hk.2) (.slice Ao22 y334.length co22)) (fun _ hk => trivial), by exact lT HB (gC GE325 (gC GE326 (gC GE333 gN)))⟩
   ·replace c9 := Bool.eq_false_iff.mpr c9
    subst c9
    have H1 : ((impl_cloneDisk.f l0_0 l0_1).bind fun bt339 => (some (bt339.1, bt339.2, false))) = some (r1, r2, r3) := by rw [if_neg (show ¬ (false = true) by decide)] at H; exact H
    clear H
    have H := H1
    clear H1
    replace H := Option.bind_eq_some_iff.mp H
    obtain ⟨⟨t339, t342⟩, A300, H⟩ := H
    replace H : (some (t339, t342, false)) = some (r1, r2, r3) := H
    have A30 := Aside0.mk A300
    clear A300
    simp only [Option.some.injEq, Prod.mk.injEq] at H
    obtain ⟨rfl, rfl, rfl⟩ := H
    go_enter Try.func12, Try.ntmps12
    go_wp2_with (first | ((with_reducible refine gate_dst (N := 3) rfl ?_); refine box_event ?hg (N := 3) ?hd (cs := #[.slice A0_0 l0_0.length c0_0, .slice A0_1 l0_1.length c0_1]) (t := 27) ?hr ?_; (case hd => rfl); (case hg => rfl); (case hr => first | (go_simp; done) | (go_simp; rfl)); intro gb325 hg w31 hbox hb; replace BK325 := ak (hbox); replace GW325 := ak ((by rw [hg]; exact (below_size (lG HB)) : w.heap.size ≤ gb325)); replace GE325 := ak ((by rw [hg]; exact (below_size (lG HB)) : w.heap.size ≤ gb325)); replace HB := lB HB hb; clear hb hbox hg) | ((with_reducible refine gate_dst (N := 6) rfl ?_); refine box_event ?hg (N := 6) ?hd (cs := #[.slice none 0 0, .slice none 0 0]) (t := 27) ?hr ?_; (case hd => rfl); (case hg => rfl); (case hr => first | (go_simp; done) | (go_simp; rfl)); intro gb326 hg w32 hbox hb; replace BK326 := ak (hbox); replace GW326 := ak ((by rw [hg]; exact (below_size (lT HB (gC GE325 gN))) : w.heap.size ≤ gb326)); replace GE326 := ak ((by rw [hg]; exact (below_size (lT HB (gC GE325 gN))) : w.heap.size ≤ gb326)); replace HB := ak (below_step (lT HB (gC GE325 gN)) hb); replace NB325_326 := ak ((by rw [hg]; exact Nat.ne_of_lt (blk_lt (bG BK325)) : gb325 ≠ gb326)); replace NB326_325 := ak ((by rw [hg]; exact Nat.ne_of_gt (blk_lt (bG BK325)) : gb326 ≠ gb325)); replace BK325 := bB BK325 hb; clear hb hbox hg; have hnb33 := NB325_326.out; have hnc33 := NB326_325.out; obtain ⟨hcz34_0, hcz34_1, hfz34_0, hfz34_1⟩ := bC2 BK325) | ((with_reducible refine gate_callee (f := 48) rfl ?_); refine goesL_ (some 10) rfl rfl Try.func48 (by kernel_rfl) rfl #[.agg #[.slice A0_0 l0_0.length c0_0, .slice A0_1 l0_1.length c0_1]] rfl (by (try simp only [List.map_toArray, List.map_cons, List.map_nil]); first | done | rfl | (simp only [List.length_drop, List.length_take]; rfl)) ?_; (with_reducible refine (impl_cloneDisk.calls _ _ l0_0 _ _ l0_1 t327 t330 _ ?side1 ?side2 ?side3 ?side4 A4.out).mono ?_); (case side1 => exact cG (Kd.C_below HR0_0.out HB.out)); (case side2 => exact HC0_0.out); (case side3 => exact cG (Kd.C_below HR0_1.out HB.out)); (case side4 => exact HC0_1.out); rintro e w35 ⟨v328, v331, rfl, ho0, ho1, hb⟩; refine ⟨_, rfl, ?_⟩; replace HO329 := ak (Kd.R_lower ho0 (below_size (lT HB (gC GE325 (gC GE326 gN))))); replace HO332 := ak (Kd.R_lower ho1 (below_size (lT HB (gC GE325 (gC GE326 gN))))); replace BK325 := bB BK325 hb; replace BK326 := bB BK326 hb; replace HB := ak (below_step (lT HB (gC GE325 (gC GE326 gN))) hb); (try clear hb); (try clear hb2); (try clear hk); (try clear hi); (try clear ho0); (try clear ho1)) | ((with_reducible refine gate_dst (N := 8) rfl ?_); refine box_event ?hg (N := 8) ?hd (cs := #[.slice none 0 0, .slice none 0 0]) (t := 27) ?hr ?_; (case hd => rfl); (case hg => rfl); (case hr => first | (go_simp; done) | (go_simp; rfl)); intro gb333 hg w36 hbox hb; replace HO329 := rB HO329 hb; replace HO332 := rB HO332 hb; replace BK333 := ak (hbox); replace GW333 := ak ((by rw [hg]; exact (below_size (lT HB (gC GE325 (gC GE326 gN)))) : w.heap.size ≤ gb333)); replace GE333 := ak ((by rw [hg]; exact (below_size (lT HB (gC GE325 (gC GE326 gN)))) : w.heap.size ≤ gb333)); replace HB := ak (below_step (lT HB (gC GE325 (gC GE326 gN))) hb); replace NB325_333 := ak ((by rw [hg]; exact Nat.ne_of_lt (blk_lt (bG BK325)) : gb325 ≠ gb333)); replace NB333_325 := ak ((by rw [hg]; exact Nat.ne_of_gt (blk_lt (bG BK325)) : gb333 ≠ gb325)); replace BK325 := bB BK325 hb; replace NB326_333 := ak ((by rw [hg]; exact Nat.ne_of_lt (blk_lt (bG BK326)) : gb326 ≠ gb333)); replace NB333_326 := ak ((by rw [hg]; exact Nat.ne_of_gt (blk_lt (bG BK326)) : gb333 ≠ gb326)); replace BK326 := bB BK326 hb; clear hb hbox hg; obtain ⟨Ao37, co37, eo37⟩ := Kd.R_slice HO329.out; subst eo37; have hnb38 := NB333_325.out; have hnc38 := NB325_333.out; have hnb39 := NB333_326.out; have hnc39 := NB326_333.out; obtain ⟨hcz40_0, hcz40_1, hfz40_0, hfz40_1⟩ := bC2 BK333; obtain ⟨Ao41, co41, eo41⟩ := Kd.R_slice HO332.out; subst eo41) | ((with_reducible refine gate_builtin (b := .append) (xs := #[.tmp 12, .tmp 16]) rfl ?_); at_builtin; refine Kd.R_append k63 (w0 := w) w.heap.size rfl (.tmp 12) (.tmp 16) 25 63 (.agg #[(.int .i64 0), (.string ⟨#[]⟩)]) 24 rfl Try.underlying25 info63 rfl (by decide) (by omega) (.slice Ao41 t330.length co41) t330 (⟨a1, a2⟩ : S63) [.int .i64 a1, .string a2] (fun _ => True) (fun _ => False) rfl (by first | (go_simp; done) | (go_simp; rfl)) ?aP (fun _ hk => hk.elim) ?aF ?aO ?aB ?aS ?aL ?_; (case aP => exact k63_mkM _ _ _ (⟨a1, a2⟩ : S63)); (case aB => exact (lT HB (gC GE325 (gC GE326 (gC GE333 gN))))); (case aF => exact (fun _ _ => trivial)); (case aO => exact (by (with_reducible repeat (first | apply Kd.R_alloc | apply Kd.R_drewN | apply Kd.R_drew)); exact Kd.R_mono (Kd.R_far (p := ⟨gb333, 1, none⟩) (Kd.R_far (p := ⟨gb333, 0, none⟩) (Kd.R_types HO332.out BK333.out (by decide)) (fun _ hk => hk.2) (.slice Ao37 t327.length co37)) (fun _ hk => hk.2) (.slice Ao41 t330.length co41)) (fun _ hk => trivial))); (case aS => exact (below_size (lT HB (gC GE325 (gC GE326 (gC GE333 gN)))))); (case aL => have := LMc5.out; omega); intro v335 w42 ho hb hg hat; rw [← Ny334.out] at ho; have n0_ := ak (blk_grown (g := gb325) (o := .cells #[.slice A0_0 l0_0.length c0_0, .slice A0_1 l0_1.length c0_1] 27 (0, 0)) (bT BK325 (nC NB325_333 nN)) hg (Kd.R_ne HO332.out BK325.out (by decide))); have n1_ := ak (blk_grown (g := gb326) (o := .cells #[.slice none 0 0, .slice none 0 0] 27 (0, 0)) (bT BK326 (nC NB326_333 nN)) hg (Kd.R_ne HO332.out BK326.out (by decide))); have n2_ := ak (Kd.R_over' (rT HO329 BK333 (by decide)) (Kd.R_typed (rT HO332 BK333 (by decide))) (by decide) hg); have n3_ := ak (blk_grown (g := gb333) (o := .cells #[.slice Ao37 t327.length co37, .slice Ao41 t330.length co41] 27 (0, 0)) (by (with_reducible repeat (first | refine blk_drewN ?_ _ | refine blk_drew ?_ | refine blk_alloc ?_ _)); refine blk_put (cs := #[.slice Ao37 t327.length co37, .slice none 0 0]) ?_ 1 _ rfl; (with_reducible repeat (first | refine blk_drewN ?_ _ | refine blk_drew ?_ | refine blk_alloc ?_ _)); refine blk_put (cs := #[.slice none 0 0, .slice none 0 0]) ?_ 0 _ rfl; (with_reducible repeat (first | refine blk_drewN ?_ _ | refine blk_drew ?_ | refine blk_alloc ?_ _)); exact BK333.out) hg (Kd.R_ne HO332.out BK333.out (by decide))); have n4_ := ak (hb); have n5_ := ak (ho); clear BK325; clear BK326; clear HO329; clear BK333; clear HB; clear HO332; have BK325 := n0_; have BK326 := n1_; have HO329 := n2_; have BK333 := n3_; have HB := n4_; have HO336 := n5_; clear n0_ n1_ n2_ n3_ n4_ n5_; clear ho hb hg hat; obtain ⟨Ao43, co43, eo43⟩ := Kd.R_slice HO336.out; subst eo43; obtain ⟨hcz44_0, hcz44_1, hfz44_0, hfz44_1⟩ := bC2 BK333; obtain ⟨hcz45_0, hcz45_1, hfz45_0, hfz45_1⟩ := bC2 BK325) | ((with_reducible refine gate_callee (f := 16) rfl ?_); refine goesL_ (some 20) rfl rfl Try.func16 (by kernel_rfl) rfl #[.agg #[.slice A0_0 l0_0.length c0_0, .slice A0_1 l0_1.length c0_1]] rfl (by (try simp only [List.map_toArray, List.map_cons, List.map_nil]); first | done | rfl | (simp only [List.length_drop, List.length_take]; rfl)) ?_; (with_reducible refine (impl_DiskOk.calls _ _ l0_0 _ _ l0_1 true _ ?side1 ?side2 ?side3 ?side4 A6.out).mono ?_); (case side1 => exact Kd.C_below HR0_0.out (lT HB (gC GE325 (gC GE326 (gC GE333 gN))))); (case side2 => exact HC0_0.out); (case side3 => exact Kd.C_below HR0_1.out (lT HB (gC GE325 (gC GE326 (gC GE333 gN))))); (case side4 => exact HC0_1.out); rintro e w46 ⟨rfl, hb⟩; refine ⟨_, rfl, ?_⟩; replace HO329 := ak (Kd.R_below (rT HO329 BK333 (by decide)) hb); replace HO336 := ak (Kd.R_below (rT HO336 BK333 (by decide)) hb); replace BK325 := ak (blk_below (bT BK325 (nC NB325_333 nN)) hb); replace BK326 := ak (blk_below (bT BK326 (nC NB326_333 nN)) hb); replace BK333 := ak (blk_below (g := gb333) (o := .cells #[.slice Ao37 t327.length co37, .slice Ao43 y334.length co43] 27 (0, 0)) (by (with_reducible repeat (first | refine blk_drewN ?_ _ | refine blk_drew ?_ | refine blk_alloc ?_ _)); refine blk_put (cs := #[.slice Ao37 t327.length co37, .slice Ao41 t330.length co41]) ?_ 1 _ rfl; (with_reducible repeat (first | refine blk_drewN ?_ _ | refine blk_drew ?_ | refine blk_alloc ?_ _)); exact BK333.out) hb); replace HB := ak (below_step (lT HB (gC GE325 (gC GE326 (gC GE333 gN)))) hb); (try clear hb); (try clear hb2); (try clear hk); (try clear hi); obtain ⟨hcz47_0, hcz47_1, hfz47_0, hfz47_1⟩ := bC2 BK333) | (go_at_call 16; (with_reducible refine (impl_DiskOk.calls _ _ t327 _ _ y334 false _ ?side1 ?side2 ?side3 ?side4 A8.out).mono ?_); (case side1 => exact cG (Kd.R_reads' HO329.out).2.2); (case side2 => exact (Kd.R_reads' HO329.out).2.1); (case side3 => exact cG (Kd.R_reads' HO336.out).2.2); (case side4 => exact (Kd.R_reads' HO336.out).2.1); rintro e w48 ⟨rfl, hb⟩; replace HO329 := rB HO329 hb; replace HO336 := rB HO336 hb; replace BK325 := bB BK325 hb; replace BK326 := bB BK326 hb; replace BK333 := bB BK333 hb; replace HB := ak (below_step (lT HB (gC GE325 (gC GE326 (gC GE333 gN)))) hb); (try clear hb); (try clear hb2); (try clear hk); (try clear hi); obtain ⟨hcz49_0, hcz49_1, hfz49_0, hfz49_1⟩ := bC2 BK325) | ((with_reducible refine gate_callee (f := 48) rfl ?_); refine goesL_ (some 28) rfl rfl Try.func48 (by kernel_rfl) rfl #[.agg #[.slice A0_0 l0_0.length c0_0, .slice A0_1 l0_1.length c0_1]] rfl (by (try simp only [List.map_toArray, List.map_cons, List.map_nil]); first | done | rfl | (simp only [List.length_drop, List.length_take]; rfl)) ?_; (with_reducible refine (impl_cloneDisk.calls _ _ l0_0 _ _ l0_1 t339 t342 _ ?side1 ?side2 ?side3 ?side4 A30.out).mono ?_); (case side1 => exact cG (Kd.C_below HR0_0.out HB.out)); (case side2 => exact HC0_0.out); (case side3 => exact cG (Kd.C_below HR0_1.out HB.out)); (case side4 => exact HC0_1.out); rintro e w50 ⟨v340, v343, rfl, ho0, ho1, hb⟩; refine ⟨_, rfl, ?_⟩; replace HO341 := ak (Kd.R_lower (Kd.R_new' ho0 (Kd.R_lt (rG HO329))) (below_size (lT HB (gC GE325 (gC GE326 (gC GE333 gN)))))); replace HO329 := ak (Kd.R_elder' (rG HO329) (Kd.R_base ho0) hb); replace HO344 := ak (Kd.R_lower (Kd.R_new' ho1 (Kd.R_lt (rG HO336))) (below_size (lT HB (gC GE325 (gC GE326 (gC GE333 gN)))))); replace HO336 := ak (Kd.R_elder' (rG HO336) (Kd.R_base ho1) hb); replace BK325 := bB BK325 hb; replace BK326 := bB BK326 hb; replace BK333 := bB BK333 hb; replace HB := ak (below_step (lT HB (gC GE325 (gC GE326 (gC GE333 gN)))) hb); (try clear hb); (try clear hb2); (try clear hk); (try clear hi); (try clear ho0); (try clear ho1); obtain ⟨Ao51, co51, eo51⟩ := Kd.R_slice HO341.out; subst eo51; obtain ⟨hcz52_0, hcz52_1, hfz52_0, hfz52_1⟩ := bC2 BK326; obtain ⟨Ao53, co53, eo53⟩ := Kd.R_slice HO344.out; subst eo53))
    refine bodyPost_ret (results_ct rfl _ _ gb326 27 #[.slice Ao51 t339.length co51, .slice Ao53 t342.length co53] (0, 0) _ rfl (by (with_reducible repeat (first | refine blk_drewN ?_ _ | refine blk_drew ?_ | refine blk_alloc ?_ _)); refine blk_put (cs := #[.slice Ao51 t339.length co51, .slice none 0 0]) ?_ 1 _ rfl; (with_reducible repeat (first | refine blk_drewN ?_ _ | refine blk_drew ?_ | refine blk_alloc ?_ _)); refine blk_put (cs := #[.slice none 0 0, .slice none 0 0]) ?_ 0 _ rfl; (with_reducible repeat (first | refine blk_drewN ?_ _ | refine blk_drew ?_ | refine blk_alloc ?_ _)); exact BK326.out) Try.underlying27 rfl (by kernel_rfl)) rfl ?_
    exact ⟨_, _, by first | rfl | (simp [errW_none, errW_some] <;> rfl) | (simp [*, errW_none, errW_some] <;> rfl), by (with_reducible repeat (first | apply Kd.R_alloc | apply Kd.R_drewN | apply Kd.R_drew)); exact Kd.R_mono (Kd.R_far (p := ⟨gb326, 1, none⟩) (Kd.R_far (p := ⟨gb326, 0, none⟩) (Kd.R_types HO341.out BK326.out (by decide)) (fun _ hk => hk.2) (.slice Ao51 t339.length co51)) (fun _ hk => hk.2) (.slice Ao53 t342.length co53)) (fun _ hk => trivial), by (with_reducible repeat (first | apply Kd.R_alloc | apply Kd.R_drewN | apply Kd.R_drew)); exact Kd.R_mono (Kd.R_far (p := ⟨gb326, 1, none⟩) (Kd.R_far (p := ⟨gb326, 0, none⟩) (Kd.R_types HO344.out BK326.out (by decide)) (fun _ hk => hk.2) (.slice Ao51 t339.length co51)) (fun _ hk => hk.2) (.slice Ao53 t342.length co53)) (fun _ hk => trivial), by exact lT HB (gC GE325 (gC GE326 (gC GE333 gN)))⟩
  ·replace c7 := Bool.eq_false_iff.mpr c7
   subst c7
   have H1 : ((impl_cloneDisk.f l0_0 l0_1).bind fun bt345 => (some (bt345.1, bt345.2, false))) = some (r1, r2, r3) := by rw [if_neg (show ¬ (false = true) by decide)] at H; exact H
   clear H
   have H := H1
   clear H1
   replace H := Option.bind_eq_some_iff.mp H
   obtain ⟨⟨t345, t348⟩, A540, H⟩ := H
   replace H : (some (t345, t348, false)) = some (r1, r2, r3) := H
   have A54 := Aside0.mk A540
   clear A540
   simp only [Option.some.injEq, Prod.mk.injEq] at H
   obtain ⟨rfl, rfl, rfl⟩ := H
   go_enter Try.func12, Try.ntmps12
   go_wp2_with (first | ((with_reducible refine gate_dst (N := 3) rfl ?_); refine box_event ?hg (N := 3) ?hd (cs := #[.slice A0_0 l0_0.length c0_0, .slice A0_1 l0_1.length c0_1]) (t := 27) ?hr ?_; (case hd => rfl); (case hg => rfl); (case hr => first | (go_simp; done) | (go_simp; rfl)); intro gb325 hg w55 hbox hb; replace BK325 := ak (hbox); replace GW325 := ak ((by rw [hg]; exact (below_size (lG HB)) : w.heap.size ≤ gb325)); replace GE325 := ak ((by rw [hg]; exact (below_size (lG HB)) : w.heap.size ≤ gb325)); replace HB := lB HB hb; clear hb hbox hg) | ((with_reducible refine gate_dst (N := 6) rfl ?_); refine box_event ?hg (N := 6) ?hd (cs := #[.slice none 0 0, .slice none 0 0]) (t := 27) ?hr ?_; (case hd => rfl); (case hg => rfl); (case hr => first | (go_simp; done) | (go_simp; rfl)); intro gb326 hg w56 hbox hb; replace BK326 := ak (hbox); replace GW326 := ak ((by rw [hg]; exact (below_size (lT HB (gC GE325 gN))) : w.heap.size ≤ gb326)); replace GE326 := ak ((by rw [hg]; exact (below_size (lT HB (gC GE325 gN))) : w.heap.size ≤ gb326)); replace HB := ak (below_step (lT HB (gC GE325 gN)) hb); replace NB325_326 := ak ((by rw [hg]; exact Nat.ne_of_lt (blk_lt (bG BK325)) : gb325 ≠ gb326)); replace NB326_325 := ak ((by rw [hg]; exact Nat.ne_of_gt (blk_lt (bG BK325)) : gb326 ≠ gb325)); replace BK325 := bB BK325 hb; clear hb hbox hg; have hnb57 := NB325_326.out; have hnc57 := NB326_325.out; obtain ⟨hcz58_0, hcz58_1, hfz58_0, hfz58_1⟩ := bC2 BK325) | ((with_reducible refine gate_callee (f := 48) rfl ?_); refine goesL_ (some 10) rfl rfl Try.func48 (by kernel_rfl) rfl #[.agg #[.slice A0_0 l0_0.length c0_0, .slice A0_1 l0_1.length c0_1]] rfl (by (try simp only [List.map_toArray, List.map_cons, List.map_nil]); first | done | rfl | (simp only [List.length_drop, List.length_take]; rfl)) ?_; (with_reducible refine (impl_cloneDisk.calls _ _ l0_0 _ _ l0_1 t327 t330 _ ?side1 ?side2 ?side3 ?side4 A4.out).mono ?_); (case side1 => exact cG (Kd.C_below HR0_0.out HB.out)); (case side2 => exact HC0_0.out); (case side3 => exact cG (Kd.C_below HR0_1.out HB.out)); (case side4 => exact HC0_1.out); rintro e w59 ⟨v328, v331, rfl, ho0, ho1, hb⟩; refine ⟨_, rfl, ?_⟩; replace HO329 := ak (Kd.R_lower ho0 (below_size (lT HB (gC GE325 (gC GE326 gN))))); replace HO332 := ak (Kd.R_lower ho1 (below_size (lT HB (gC GE325 (gC GE326 gN))))); replace BK325 := bB BK325 hb; replace BK326 := bB BK326 hb; replace HB := ak (below_step (lT HB (gC GE325 (gC GE326 gN))) hb); (try clear hb); (try clear hb2); (try clear hk); (try clear hi); (try clear ho0); (try clear ho1)) | ((with_reducible refine gate_dst (N := 8) rfl ?_); refine box_event ?hg (N := 8) ?hd (cs := #[.slice none 0 0, .slice none 0 0]) (t := 27) ?hr ?_; (case hd => rfl); (case hg => rfl); (case hr => first | (go_simp; done) | (go_simp; rfl)); intro gb333 hg w60 hbox hb; replace HO329 := rB HO329 hb; replace HO332 := rB HO332 hb; replace BK333 := ak (hbox); replace GW333 := ak ((by rw [hg]; exact (below_size (lT HB (gC GE325 (gC GE326 gN)))) : w.heap.size ≤ gb333)); replace GE333 := ak ((by rw [hg]; exact (below_size (lT HB (gC GE325 (gC GE326 gN)))) : w.heap.size ≤ gb333)); replace HB := ak (below_step (lT HB (gC GE325 (gC GE326 gN))) hb); replace NB325_333 := ak ((by rw [hg]; exact Nat.ne_of_lt (blk_lt (bG BK325)) : gb325 ≠ gb333)); replace NB333_325 := ak ((by rw [hg]; exact Nat.ne_of_gt (blk_lt (bG BK325)) : gb333 ≠ gb325)); replace BK325 := bB BK325 hb; replace NB326_333 := ak ((by rw [hg]; exact Nat.ne_of_lt (blk_lt (bG BK326)) : gb326 ≠ gb333)); replace NB333_326 := ak ((by rw [hg]; exact Nat.ne_of_gt (blk_lt (bG BK326)) : gb333 ≠ gb326)); replace BK326 := bB BK326 hb; clear hb hbox hg; obtain ⟨Ao61, co61, eo61⟩ := Kd.R_slice HO329.out; subst eo61; have hnb62 := NB333_325.out; have hnc62 := NB325_333.out; have hnb63 := NB333_326.out; have hnc63 := NB326_333.out; obtain ⟨hcz64_0, hcz64_1, hfz64_0, hfz64_1⟩ := bC2 BK333; obtain ⟨Ao65, co65, eo65⟩ := Kd.R_slice HO332.out; subst eo65) | ((with_reducible refine gate_builtin (b := .append) (xs := #[.tmp 12, .tmp 16]) rfl ?_); at_builtin; refine Kd.R_append k63 (w0 := w) w.heap.size rfl (.tmp 12) (.tmp 16) 25 63 (.agg #[(.int .i64 0), (.string ⟨#[]⟩)]) 24 rfl Try.underlying25 info63 rfl (by decide) (by omega) (.slice Ao65 t330.length co65) t330 (⟨a1, a2⟩ : S63) [.int .i64 a1, .string a2] (fun _ => True) (fun _ => False) rfl (by first | (go_simp; done) | (go_simp; rfl)) ?aP (fun _ hk => hk.elim) ?aF ?aO ?aB ?aS ?aL ?_; (case aP => exact k63_mkM _ _ _ (⟨a1, a2⟩ : S63)); (case aB => exact (lT HB (gC GE325 (gC GE326 (gC GE333 gN))))); (case aF => exact (fun _ _ => trivial)); (case aO => exact (by (with_reducible repeat (first | apply Kd.R_alloc | apply Kd.R_drewN | apply Kd.R_drew)); exact Kd.R_mono (Kd.R_far (p := ⟨gb333, 1, none⟩) (Kd.R_far (p := ⟨gb333, 0, none⟩) (Kd.R_types HO332.out BK333.out (by decide)) (fun _ hk => hk.2) (.slice Ao61 t327.length co61)) (fun _ hk => hk.2) (.slice Ao65 t330.length co65)) (fun _ hk => trivial))); (case aS => exact (below_size (lT HB (gC GE325 (gC GE326 (gC GE333 gN)))))); (case aL => have := LMc5.out; omega); intro v335 w66 ho hb hg hat; rw [← Ny334.out] at ho; have n0_ := ak (blk_grown (g := gb325) (o := .cells #[.slice A0_0 l0_0.length c0_0, .slice A0_1 l0_1.length c0_1] 27 (0, 0)) (bT BK325 (nC NB325_333 nN)) hg (Kd.R_ne HO332.out BK325.out (by decide))); have n1_ := ak (blk_grown (g := gb326) (o := .cells #[.slice none 0 0, .slice none 0 0] 27 (0, 0)) (bT BK326 (nC NB326_333 nN)) hg (Kd.R_ne HO332.out BK326.out (by decide))); have n2_ := ak (Kd.R_over' (rT HO329 BK333 (by decide)) (Kd.R_typed (rT HO332 BK333 (by decide))) (by decide) hg); have n3_ := ak (blk_grown (g := gb333) (o := .cells #[.slice Ao61 t327.length co61, .slice Ao65 t330.length co65] 27 (0, 0)) (by (with_reducible repeat (first | refine blk_drewN ?_ _ | refine blk_drew ?_ | refine blk_alloc ?_ _)); refine blk_put (cs := #[.slice Ao61 t327.length co61, .slice none 0 0]) ?_ 1 _ rfl; (with_reducible repeat (first | refine blk_drewN ?_ _ | refine blk_drew ?_ | refine blk_alloc ?_ _)); refine blk_put (cs := #[.slice none 0 0, .slice none 0 0]) ?_ 0 _ rfl; (with_reducible repeat (first | refine blk_drewN ?_ _ | refine blk_drew ?_ | refine blk_alloc ?_ _)); exact BK333.out) hg (Kd.R_ne HO332.out BK333.out (by decide))); have n4_ := ak (hb); have n5_ := ak (ho); clear BK325; clear BK326; clear HO329; clear BK333; clear HB; clear HO332; have BK325 := n0_; have BK326 := n1_; have HO329 := n2_; have BK333 := n3_; have HB := n4_; have HO336 := n5_; clear n0_ n1_ n2_ n3_ n4_ n5_; clear ho hb hg hat; obtain ⟨Ao67, co67, eo67⟩ := Kd.R_slice HO336.out; subst eo67; obtain ⟨hcz68_0, hcz68_1, hfz68_0, hfz68_1⟩ := bC2 BK333; obtain ⟨hcz69_0, hcz69_1, hfz69_0, hfz69_1⟩ := bC2 BK325) | ((with_reducible refine gate_callee (f := 16) rfl ?_); refine goesL_ (some 20) rfl rfl Try.func16 (by kernel_rfl) rfl #[.agg #[.slice A0_0 l0_0.length c0_0, .slice A0_1 l0_1.length c0_1]] rfl (by (try simp only [List.map_toArray, List.map_cons, List.map_nil]); first | done | rfl | (simp only [List.length_drop, List.length_take]; rfl)) ?_; (with_reducible refine (impl_DiskOk.calls _ _ l0_0 _ _ l0_1 false _ ?side1 ?side2 ?side3 ?side4 A6.out).mono ?_); (case side1 => exact Kd.C_below HR0_0.out (lT HB (gC GE325 (gC GE326 (gC GE333 gN))))); (case side2 => exact HC0_0.out); (case side3 => exact Kd.C_below HR0_1.out (lT HB (gC GE325 (gC GE326 (gC GE333 gN))))); (case side4 => exact HC0_1.out); rintro e w70 ⟨rfl, hb⟩; refine ⟨_, rfl, ?_⟩; replace HO329 := ak (Kd.R_below (rT HO329 BK333 (by decide)) hb); replace HO336 := ak (Kd.R_below (rT HO336 BK333 (by decide)) hb); replace BK325 := ak (blk_below (bT BK325 (nC NB325_333 nN)) hb); replace BK326 := ak (blk_below (bT BK326 (nC NB326_333 nN)) hb); replace BK333 := ak (blk_below (g := gb333) (o := .cells #[.slice Ao61 t327.length co61, .slice Ao67 y334.length co67] 27 (0, 0)) (by (with_reducible repeat (first | refine blk_drewN ?_ _ | refine blk_drew ?_ | refine blk_alloc ?_ _)); refine blk_put (cs := #[.slice Ao61 t327.length co61, .slice Ao65 t330.length co65]) ?_ 1 _ rfl; (with_reducible repeat (first | refine blk_drewN ?_ _ | refine blk_drew ?_ | refine blk_alloc ?_ _)); exact BK333.out) hb); replace HB := ak (below_step (lT HB (gC GE325 (gC GE326 (gC GE333 gN)))) hb); (try clear hb); (try clear hb2); (try clear hk); (try clear hi); obtain ⟨hcz71_0, hcz71_1, hfz71_0, hfz71_1⟩ := bC2 BK325) | ((with_reducible refine gate_callee (f := 48) rfl ?_); refine goesL_ (some 28) rfl rfl Try.func48 (by kernel_rfl) rfl #[.agg #[.slice A0_0 l0_0.length c0_0, .slice A0_1 l0_1.length c0_1]] rfl (by (try simp only [List.map_toArray, List.map_cons, List.map_nil]); first | done | rfl | (simp only [List.length_drop, List.length_take]; rfl)) ?_; (with_reducible refine (impl_cloneDisk.calls _ _ l0_0 _ _ l0_1 t345 t348 _ ?side1 ?side2 ?side3 ?side4 A54.out).mono ?_); (case side1 => exact cG (Kd.C_below HR0_0.out HB.out)); (case side2 => exact HC0_0.out); (case side3 => exact cG (Kd.C_below HR0_1.out HB.out)); (case side4 => exact HC0_1.out); rintro e w72 ⟨v346, v349, rfl, ho0, ho1, hb⟩; refine ⟨_, rfl, ?_⟩; replace HO347 := ak (Kd.R_lower (Kd.R_new' ho0 (Kd.R_lt (rG HO329))) (below_size (lT HB (gC GE325 (gC GE326 (gC GE333 gN)))))); replace HO329 := ak (Kd.R_elder' (rG HO329) (Kd.R_base ho0) hb); replace HO350 := ak (Kd.R_lower (Kd.R_new' ho1 (Kd.R_lt (rG HO336))) (below_size (lT HB (gC GE325 (gC GE326 (gC GE333 gN)))))); replace HO336 := ak (Kd.R_elder' (rG HO336) (Kd.R_base ho1) hb); replace BK325 := bB BK325 hb; replace BK326 := bB BK326 hb; replace BK333 := bB BK333 hb; replace HB := ak (below_step (lT HB (gC GE325 (gC GE326 (gC GE333 gN)))) hb); (try clear hb); (try clear hb2); (try clear hk); (try clear hi); (try clear ho0); (try clear ho1); obtain ⟨Ao73, co73, eo73⟩ := Kd.R_slice HO347.out; subst eo73; obtain ⟨hcz74_0, hcz74_1, hfz74_0, hfz74_1⟩ := bC2 BK326; obtain ⟨Ao75, co75, eo75⟩ := Kd.R_slice HO350.out; subst eo75))
   refine bodyPost_ret (results_ct rfl _ _ gb326 27 #[.slice Ao73 t345.length co73, .slice Ao75 t348.length co75] (0, 0) _ rfl (by (with_reducible repeat (first | refine blk_drewN ?_ _ | refine blk_drew ?_ | refine blk_alloc ?_ _)); refine blk_put (cs := #[.slice Ao73 t345.length co73, .slice none 0 0]) ?_ 1 _ rfl; (with_reducible repeat (first | refine blk_drewN ?_ _ | refine blk_drew ?_ | refine blk_alloc ?_ _)); refine blk_put (cs := #[.slice none 0 0, .slice none 0 0]) ?_ 0 _ rfl; (with_reducible repeat (first | refine blk_drewN ?_ _ | refine blk_drew ?_ | refine blk_alloc ?_ _)); exact BK326.out) Try.underlying27 rfl (by kernel_rfl)) rfl ?_
   exact ⟨_, _, by first | rfl | (simp [errW_none, errW_some] <;> rfl) | (simp [*, errW_none, errW_some] <;> rfl), by (with_reducible repeat (first | apply Kd.R_alloc | apply Kd.R_drewN | apply Kd.R_drew)); exact Kd.R_mono (Kd.R_far (p := ⟨gb326, 1, none⟩) (Kd.R_far (p := ⟨gb326, 0, none⟩) (Kd.R_types HO347.out BK326.out (by decide)) (fun _ hk => hk.2) (.slice Ao73 t345.length co73)) (fun _ hk => hk.2) (.slice Ao75 t348.length co75)) (fun _ hk => trivial), by (with_reducible repeat (first | apply Kd.R_alloc | apply Kd.R_drewN | apply Kd.R_drew)); exact Kd.R_mono (Kd.R_far (p := ⟨gb326, 1, none⟩) (Kd.R_far (p := ⟨gb326, 0, none⟩) (Kd.R_types HO350.out BK326.out (by decide)) (fun _ hk => hk.2) (.slice Ao73 t345.length co73)) (fun _ hk => hk.2) (.slice Ao75 t348.length co75)) (fun _ hk => trivial), by exact lT HB (gC GE325 (gC GE326 (gC GE333 gN)))⟩
 ·rw [if_neg c5] at H
  exact absurd H (by simp)

/-! ### impl_FlushDisk: function 13 -/
def impl_FlushDisk.l0 : Nat → List (S63) → Int → Int → List ByteArray → List (S63) → Option (List ByteArray × (List (S63)))
 | 0, _, _, _, _, _ => none
 | k + 1, x13, x14, x15, x360000, x360001 => if x15 < x14 then (if 0 ≤ x15 then (if x15 < (x13.length : Int) then (if 0 ≤ ((rd_T63 x13 x15).f0) then (if ((rd_T63 x13 x15).f0) < (x360000.length : Int) then (impl_FlushDisk.l0 k x13 x14 (wrap64 (x15 + 1)) (x360000.set (((rd_T63 x13 x15).f0) : Int).toNat ((rd_T63 x13 x15).f1)) x360001) else (none)) else (none)) else (none)) else (none)) else (some (x360000, ([] : List (S63))))
def impl_FlushDisk.f (k : Nat) (l0_0 : List ByteArray) (l0_1 : List (S63)) : Option (List ByteArray × (List (S63))) := (impl_cloneDisk.f l0_0 l0_1).bind fun bt353 => ((impl_DiskOk.f l0_0 l0_1).bind fun t360 => (if t360 = true then (impl_FlushDisk.l0 k l0_1 (l0_1.length : Int) 0 bt353.1 bt353.2) else (some (bt353.1, bt353.2))))
theorem impl_FlushDisk.mono_l : ∀ k, (∀ y0 y1 y2 y3 y4, LeO (impl_FlushDisk.l0 k y0 y1 y2 y3 y4) (impl_FlushDisk.l0 (k + 1) y0 y1 y2 y3 y4))
 | 0 => fun _ _ _ _ _ r h => by simp [impl_FlushDisk.l0] at h
 | k + 1 => by
  have ih0 := impl_FlushDisk.mono_l k
  ·intro y0 y1 y2 y3 y4
   unfold impl_FlushDisk.l0
   repeat' first
   | (with_reducible exact ih0 _ _ _ _ _)
   | (with_reducible exact LeO.refl _)
   | (with_reducible exact LeO.none _)
   | (with_reducible refine LeO.ite ?_ ?_)
   | (with_reducible refine LeO.bind ?_ (fun _ => ?_))
   | exact ih0 _ _ _ _ _
   | exact LeO.none _
   | refine LeO.ite ?_ ?_
   | refine LeO.bind ?_ (fun _ => ?_)
theorem impl_FlushDisk.mono : ∀ a0 a1 k, LeO (impl_FlushDisk.f k a0 a1) (impl_FlushDisk.f (k + 1) a0 a1) := by
 intro a0 a1 k
 have ih0 := impl_FlushDisk.mono_l k
 unfold impl_FlushDisk.f
 repeat' first
   | (with_reducible exact ih0 _ _ _ _ _)
   | (with_reducible exact LeO.refl _)
   | (with_reducible exact LeO.none _)
   | (with_reducible refine LeO.ite ?_ ?_)
   | (with_reducible refine LeO.bind ?_ (fun _ => ?_))
   | exact ih0 _ _ _ _ _
   | exact LeO.none _
   | refine LeO.ite ?_ ?_
   | refine LeO.bind ?_ (fun _ => ?_)
set_option maxHeartbeats 8000000 in
set_option maxRecDepth 100000 in
theorem impl_FlushDisk.calls (k : Nat) (A0_0 : Option Addr) (c0_0 : Nat) (l0_0 : List ByteArray) (A0_1 : Option Addr) (c0_1 : Nat) (l0_1 : List (S63)) (r1 : List ByteArray) (r2 : List (S63)) (w : World) (hr0_0 : Kd.C Kd.string w A0_0 l0_0.length l0_0) (hc0_0 : l0_0.length ≤ c0_0) (hr0_1 : Kd.C k63 w A0_1 l0_1.length l0_1) (hc0_1 : l0_1.length ≤ c0_1) (h : impl_FlushDisk.f k l0_0 l0_1 = some (r1, r2)) :
  Calls Try.prog 13 #[.agg #[.slice A0_0 l0_0.length c0_0, .slice A0_1 l0_1.length c0_1]] w fun e w' => ∃ v0_ v1_ : Value, e = .returned (.agg #[v0_, v1_]) ∧ Kd.R Kd.string 9 w' w.heap.size (fun _ => True) v0_ r1 ∧ Kd.R k63 63 w' w.heap.size (fun _ => True) v1_ r2 ∧ Below w.heap.size w w' := by
 have hu27 := Try.underlying27
 have hu63 := Try.underlying63
 have HR0_0 := Aside0.mk hr0_0
 have HC0_0 := Aside0.mk hc0_0
 clear hr0_0 hc0_0
 have HR0_1 := Aside0.mk hr0_1
 have HC0_1 := Aside0.mk hc0_1
 clear hr0_1 hc0_1
 have HB := ak (Below.refl w.heap.size w)
 have H : ((impl_cloneDisk.f l0_0 l0_1).bind fun bt353 => ((impl_DiskOk.f l0_0 l0_1).bind fun t360 => (if t360 = true then (impl_FlushDisk.l0 k l0_1 (l0_1.length : Int) 0 bt353.1 bt353.2) else (some (bt353.1, bt353.2))))) = some (r1, r2) := h
 clear h
 replace H := Option.bind_eq_some_iff.mp H
 obtain ⟨⟨t353, t356⟩, A20, H⟩ := H
 replace H : ((impl_DiskOk.f l0_0 l0_1).bind fun t360 => (if t360 = true then (impl_FlushDisk.l0 k l0_1 (l0_1.length : Int) 0 t353 t356) else (some (t353, t356)))) = some (r1, r2) := H
 have A2 := Aside0.mk A20
 clear A20
 replace H := Option.bind_eq_some_iff.mp H
 obtain ⟨t360, A30, H⟩ := H
 replace H : (if t360 = true then (impl_FlushDisk.l0 k l0_1 (l0_1.length : Int) 0 t353 t356) else (some (t353, t356))) = some (r1, r2) := H
 have A3 := Aside0.mk A30
 clear A30
 by_cases c4 : t360 = true
 ·subst c4
  have H1 : (impl_FlushDisk.l0 k l0_1 (l0_1.length : Int) 0 t353 t356) = some (r1, r2) := by rw [if_pos rfl] at H; exact H
  clear H
  have H := H1
  clear H1
  have H' := Aside0.mk H
  clear H
  go_enter Try.func13, Try.ntmps13
  go_wp2_with (first | ((with_reducible refine gate_dst (N := 1) rfl ?_); refine box_event ?hg (N := 1) ?hd (cs := #[.slice A0_0 l0_0.length c0_0, .slice A0_1 l0_1.length c0_1]) (t := 27) ?hr ?_; (case hd => rfl); (case hg => rfl); (case hr => first | (go_simp; done) | (go_simp; rfl)); intro gb351 hg w5 hbox hb; replace BK351 := ak (hbox); replace GW351 := ak ((by rw [hg]; exact (below_size (lG HB)) : w.heap.size ≤ gb351)); replace GE351 := ak ((by rw [hg]; exact (below_size (lG HB)) : w.heap.size ≤ gb351)); replace HB := lB HB hb; clear hb hbox hg) | ((with_reducible refine gate_dst (N := 2) rfl ?_); refine box_event ?hg (N := 2) ?hd (cs := #[.slice none 0 0, .slice none 0 0]) (t := 27) ?hr ?_; (case hd => rfl); (case hg => rfl); (case hr => first | (go_simp; done) | (go_simp; rfl)); intro gb352 hg w6 hbox hb; replace BK352 := ak (hbox); replace GW352 := ak ((by rw [hg]; exact (below_size (lT HB (gC GE351 gN))) : w.heap.size ≤ gb352)); replace GE352 := ak ((by rw [hg]; exact (below_size (lT HB (gC GE351 gN))) : w.heap.size ≤ gb352)); replace HB := ak (below_step (lT HB (gC GE351 gN)) hb); replace NB351_352 := ak ((by rw [hg]; exact Nat.ne_of_lt (blk_lt (bG BK351)) : gb351 ≠ gb352)); replace NB352_351 := ak ((by rw [hg]; exact Nat.ne_of_gt (blk_lt (bG BK351)) : gb352 ≠ gb351)); replace BK351 := bB BK351 hb; clear hb hbox hg; have hnb7 := NB351_352.out; have hnc7 := NB352_351.out; obtain ⟨hcz8_0, hcz8_1, hfz8_0, hfz8_1⟩ := bC2 BK351) | ((with_reducible refine gate_callee (f := 48) rfl ?_); refine goesL_ (some 7) rfl rfl Try.func48 (by kernel_rfl) rfl #[.agg #[.slice A0_0 l0_0.length c0_0, .slice A0_1 l0_1.length c0_1]] rfl (by (try simp only [List.map_toArray, List.map_cons, List.map_nil]); first | done | rfl | (simp only [List.length_drop, List.length_take]; rfl)) ?_; (with_reducible refine (impl_cloneDisk.calls _ _ l0_0 _ _ l0_1 t353 t356 _ ?side1 ?side2 ?side3 ?side4 A2.out).mono ?_); (case side1 => exact cG (Kd.C_below HR0_0.out HB.out)); (case side2 => exact HC0_0.out); (case side3 => exact cG (Kd.C_below HR0_1.out HB.out)); (case side4 => exact HC0_1.out); rintro e w9 ⟨v354, v357, rfl, ho0, ho1, hb⟩; refine ⟨_, rfl, ?_⟩; replace HO355 := ak (Kd.R_lower ho0 (below_size (lT HB (gC GE351 (gC GE352 gN))))); replace HO358 := ak (Kd.R_lower ho1 (below_size (lT HB (gC GE351 (gC GE352 gN))))); replace BK351 := bB BK351 hb; replace BK352 := bB BK352 hb; replace HB := ak (below_step (lT HB (gC GE351 (gC GE352 gN))) hb); (try clear hb); (try clear hb2); (try clear hk); (try clear hi); (try clear ho0); (try clear ho1)) | ((with_reducible refine gate_dst (N := 3) rfl ?_); refine box_event ?hg (N := 3) ?hd (cs := #[.slice none 0 0, .slice none 0 0]) (t := 27) ?hr ?_; (case hd => rfl); (case hg => rfl); (case hr => first | (go_simp; done) | (go_simp; rfl)); intro gb359 hg w10 hbox hb; replace HO355 := rB HO355 hb; replace HO358 := rB HO358 hb; replace BK359 := ak (hbox); replace GW359 := ak ((by rw [hg]; exact (below_size (lT HB (gC GE351 (gC GE352 gN)))) : w.heap.size ≤ gb359)); replace GE359 := ak ((by rw [hg]; exact (below_size (lT HB (gC GE351 (gC GE352 gN)))) : w.heap.size ≤ gb359)); replace HB := ak (below_step (lT HB (gC GE351 (gC GE352 gN))) hb); replace NB351_359 := ak ((by rw [hg]; exact Nat.ne_of_lt (blk_lt (bG BK351)) : gb351 ≠ gb359)); replace NB359_351 := ak ((by rw [hg]; exact Nat.ne_of_gt (blk_lt (bG BK351)) : gb359 ≠ gb351)); replace BK351 := bB BK351 hb; replace NB352_359 := ak ((by rw [hg]; exact Nat.ne_of_lt (blk_lt (bG BK352)) : gb352 ≠ gb359)); replace NB359_352 := ak ((by rw [hg]; exact Nat.ne_of_gt (blk_lt (bG BK352)) : gb359 ≠ gb352)); replace BK352 := bB BK352 hb; clear hb hbox hg; obtain ⟨Ao11, co11, eo11⟩ := Kd.R_slice HO355.out; subst eo11; have hnb12 := NB359_351.out; have hnc12 := NB351_359.out; have hnb13 := NB359_352.out; have hnc13 := NB352_359.out; obtain ⟨hcz14_0, hcz14_1, hfz14_0, hfz14_1⟩ := bC2 BK359; obtain ⟨Ao15, co15, eo15⟩ := Kd.R_slice HO358.out; subst eo15; obtain ⟨hcz16_0, hcz16_1, hfz16_0, hfz16_1⟩ := bC2 BK351) | ((with_reducible refine gate_callee (f := 16) rfl ?_); refine goesL_ (some 9) rfl rfl Try.func16 (by kernel_rfl) rfl #[.agg #[.slice A0_0 l0_0.length c0_0, .slice A0_1 l0_1.length c0_1]] rfl (by (try simp only [List.map_toArray, List.map_cons, List.map_nil]); first | done | rfl | (simp only [List.length_drop, List.length_take]; rfl)) ?_; (with_reducible refine (impl_DiskOk.calls _ _ l0_0 _ _ l0_1 true _ ?side1 ?side2 ?side3 ?side4 A3.out).mono ?_); (case side1 => exact Kd.C_below HR0_0.out (lT HB (gC GE351 (gC GE352 (gC GE359 gN))))); (case side2 => exact HC0_0.out); (case side3 => exact Kd.C_below HR0_1.out (lT HB (gC GE351 (gC GE352 (gC GE359 gN))))); (case side4 => exact HC0_1.out); rintro e w17 ⟨rfl, hb⟩; refine ⟨_, rfl, ?_⟩; replace HO355 := ak (Kd.R_below (rT HO355 BK359 (by decide)) hb); replace HO358 := ak (Kd.R_below (rT HO358 BK359 (by decide)) hb); replace BK351 := ak (blk_below (bT BK351 (nC NB351_359 nN)) hb); replace BK352 := ak (blk_below (bT BK352 (nC NB352_359 nN)) hb); replace BK359 := ak (blk_below (g := gb359) (o := .cells #[.slice Ao11 t353.length co11, .slice Ao15 t356.length co15] 27 (0, 0)) (by (with_reducible repeat (first | refine blk_drewN ?_ _ | refine blk_drew ?_ | refine blk_alloc ?_ _)); refine blk_put (cs := #[.slice Ao11 t353.length co11, .slice none 0 0]) ?_ 1 _ rfl; (with_reducible repeat (first | refine blk_drewN ?_ _ | refine blk_drew ?_ | refine blk_alloc ?_ _)); refine blk_put (cs := #[.slice none 0 0, .slice none 0 0]) ?_ 0 _ rfl; (with_reducible repeat (first | refine blk_drewN ?_ _ | refine blk_drew ?_ | refine blk_alloc ?_ _)); exact BK359.out) hb); replace HB := ak (below_step (lT HB (gC GE351 (gC GE352 (gC GE359 gN)))) hb); (try clear hb); (try clear hb2); (try clear hk); (try clear hi); obtain ⟨hcz18_0, hcz18_1, hfz18_0, hfz18_1⟩ := bC2 BK351))
  go_loopg [15] k (fun kq v15 w' => ∃ (x15_1 : Int) (x360000_1 : List ByteArray) (u360000 : Value), v15 = .int .i64 x15_1 ∧ Aside0 (impl_FlushDisk.l0 kq l0_1 (l0_1.length : Int) x15_1 x360000_1 t356 = some (r1, r2)) ∧ Aside0 (kq ≤ k) ∧ Aside0 (Kd.R Kd.string 9 w' w.heap.size (fun _ => True) u360000 x360000_1) ∧ Aside0 (Kd.R k63 63 w' w.heap.size (fun _ => True) (.slice Ao15 t356.length co15) t356) ∧ Aside0 (w'.heap[gb351]? = some (.cells #[(.slice A0_0 l0_0.length c0_0), (.slice A0_1 l0_1.length c0_1)] 27 (0, 0))) ∧ Aside0 (w'.heap[gb352]? = some (.cells #[(.slice none 0 0), (.slice none 0 0)] 27 (0, 0))) ∧ Aside0 (w'.heap[gb359]? = some (.cells #[u360000, (.slice Ao15 t356.length co15)] 27 (0, 0))) ∧ Aside0 (Below w.heap.size w w'))
  case atStart => exact ⟨(0), (t353), (.slice Ao11 t353.length co11), (by first | rfl | (simp; done) | (simp [*]; done)), H', ⟨Nat.le_refl _⟩, ⟨by (with_reducible repeat (first | apply Kd.R_alloc | apply Kd.R_drewN | apply Kd.R_drew)); exact HO355.out⟩, ⟨by (with_reducible repeat (first | apply Kd.R_alloc | apply Kd.R_drewN | apply Kd.R_drew)); exact HO358.out⟩, ⟨by (with_reducible repeat (first | refine blk_drewN ?_ _ | refine blk_drew ?_ | refine blk_alloc ?_ _)); exact BK351.out⟩, ⟨by (with_reducible repeat (first | refine blk_drewN ?_ _ | refine blk_drew ?_ | refine blk_alloc ?_ _)); exact BK352.out⟩, ⟨by (with_reducible repeat (first | refine blk_drewN ?_ _ | refine blk_drew ?_ | refine blk_alloc ?_ _)); exact BK359.out⟩, ⟨by exact lT HB (gC GE351 (gC GE352 (gC GE359 gN)))⟩⟩
  case round =>
   clear H'
   try clear c1
   try clear p2
   try clear c4
   try clear c7
   try clear c12
   try clear c13
   try clear c16
   try clear hcz14_0
   try clear hcz14_1
   try clear hcz16_0
   try clear hcz16_1
   try clear hcz18_0
   try clear hcz18_1
   try clear hcz8_0
   try clear hcz8_1
   try clear hfz14_0
   try clear hfz14_1
   try clear hfz16_0
   try clear hfz16_1
   try clear hfz18_0
   try clear hfz18_1
   try clear hfz8_0
   try clear hfz8_1
   obtain ⟨x15_1, x360000_1, u360000, rfl, HA, HK1, HO_360000, HO_360001, BK351, BK352, BK359, HB⟩ := hrel
   cases gk with
   | zero => exact absurd HA.out (by simp [impl_FlushDisk.l0])
   | succ k1 =>
    have H := HA.out
    clear HA
    simp only [impl_FlushDisk.l0] at H
    by_cases c19 : x15_1 < (l0_1.length : Int)
    ·rw [if_pos c19] at H
     have c19b0 : decide (x15_1 < (l0_1.length : Int)) = true := decide_eq_true c19
     clear c19
     by_cases c20 : 0 ≤ x15_1
     ·rw [if_pos c20] at H
      have c20b0 : decide (0 ≤ x15_1) = true := decide_eq_true c20
      clear c20
      by_cases c21 : x15_1 < (l0_1.length : Int)
      ·rw [if_pos c21] at H
       have c21b0 : decide (x15_1 < (l0_1.length : Int)) = true := decide_eq_true c21
       clear c21
       by_cases c22 : 0 ≤ ((rd_T63 l0_1 x15_1).f0)
       ·rw [if_pos c22] at H
        have c22b0 : decide (0 ≤ ((rd_T63 l0_1 x15_1).f0)) = true := decide_eq_true c22
        clear c22
        by_cases c23 : ((rd_T63 l0_1 x15_1).f0) < (x360000_1.length : Int)
        ·rw [if_pos c23] at H
         have c23b0 : decide (((rd_T63 l0_1 x15_1).f0) < (x360000_1.length : Int)) = true := decide_eq_true c23
         clear c23
         obtain ⟨y363, hy363⟩ : ∃ y_ : List ByteArray, y_ = (x360000_1.set (((rd_T63 l0_1 x15_1).f0) : Int).toNat ((rd_T63 l0_1 x15_1).f1)) := ⟨_, rfl⟩
         replace H : (impl_FlushDisk.l0 k1 l0_1 (l0_1.length : Int) (wrap64 (x15_1 + 1)) y363 t356) = some (r1, r2) := by first | (rw [hy363]; with_reducible exact H) | (have H2_ := (Option.bind_some _ _).symm.trans H; rw [hy363]; with_reducible exact H2_) | (have H2_ := (Option.bind_some _ _).symm.trans H; with_reducible exact H2_) | with_reducible exact H | (rw [hy363]; exact H) | exact H
         have Ny363 := Aside0.mk hy363
         clear hy363
         have H' := Aside0.mk H
         clear H
         have p361 : 0 ≤ (x15_1 : Int) := of_decide_eq_true (by first | (with_reducible assumption) | assumption)
         have q361 : x15_1 < (l0_1.length : Int) := of_decide_eq_true (by first | (with_reducible assumption) | assumption)
         obtain ⟨ad361, e361, hx361_0, hx361_1⟩ := at_T63 HR0_1.out x15_1 p361 q361
         cases e361
         replace hx361_0 := (HB.out.cell (World.block_lt_of_cell? w _ hx361_0)).trans hx361_0
         replace hx361_1 := (HB.out.cell (World.block_lt_of_cell? w _ hx361_1)).trans hx361_1
         replace p361 := eq_true p361
         replace q361 := eq_true q361
         go_wp2_with (first | ((with_reducible refine gate_dst (N := 5) rfl ?_); refine box_event ?hg (N := 5) ?hd (cs := #[.int .i64 0, .string (⟨#[]⟩ : ByteArray)]) (t := 63) ?hr ?_; (case hd => rfl); (case hg => rfl); (case hr => first | (go_simp; done) | (go_simp; rfl)); intro gb362 hg w25 hbox hb; replace HO_360000 := rB HO_360000 hb; replace HO_360001 := ak (Kd.R_below (Kd.R_elderB (rG HO_360001) gb362 (Nat.le_of_eq hg.symm)) hb); replace BK362 := ak (hbox); replace GW362 := ak ((by rw [hg]; exact (below_size (lT HB (gC GE351 (gC GE352 (gC GE359 gN))))) : w.heap.size ≤ gb362)); replace GE362 := ak ((by rw [hg]; exact (below_size (lT HB (gC GE351 (gC GE352 (gC GE359 gN))))) : w.heap.size ≤ gb362)); replace HB := ak (below_step (lT HB (gC GE351 (gC GE352 (gC GE359 gN)))) hb); replace NB351_362 := ak ((by rw [hg]; exact Nat.ne_of_lt (blk_lt (bG BK351)) : gb351 ≠ gb362)); replace NB362_351 := ak ((by rw [hg]; exact Nat.ne_of_gt (blk_lt (bG BK351)) : gb362 ≠ gb351)); replace BK351 := bB BK351 hb; replace NB352_362 := ak ((by rw [hg]; exact Nat.ne_of_lt (blk_lt (bG BK352)) : gb352 ≠ gb362)); replace NB362_352 := ak ((by rw [hg]; exact Nat.ne_of_gt (blk_lt (bG BK352)) : gb362 ≠ gb352)); replace BK352 := bB BK352 hb; replace NB359_362 := ak ((by rw [hg]; exact Nat.ne_of_lt (blk_lt (bG BK359)) : gb359 ≠ gb362)); replace NB362_359 := ak ((by rw [hg]; exact Nat.ne_of_gt (blk_lt (bG BK359)) : gb362 ≠ gb359)); replace BK359 := bB BK359 hb; clear hb hbox hg; have hnb26 := NB362_351.out; have hnc26 := NB351_362.out; have hnb27 := NB362_352.out; have hnc27 := NB352_362.out; have hnb28 := NB362_359.out; have hnc28 := NB359_362.out; obtain ⟨hcz29_0, hcz29_1, hfz29_0, hfz29_1⟩ := bC2 BK362) | ((with_reducible refine gate_store (t := 63) (p := 5) rfl ?_); refine store_event (t := 63) (p := 5) (v := ?vo_w30) (w1 := ((w25.setCell ⟨gb362, 0, none⟩ (.int .i64 ((rd_T63 l0_1 x15_1).f0))).setCell ⟨gb362, 1, none⟩ (.string ((rd_T63 l0_1 x15_1).f1)))) ?hg ?ho ?hn ?hr ?_; (case ho => rfl); (case hg => rfl); (case hn => rfl); (case hr => first | (go_simp; done) | (go_simp; rfl)); intro w30 hw; have n0_ : Aside0 (Kd.R Kd.string 9 w30 w.heap.size (fun _ => True) u360000 x360000_1) := ⟨(by rw [hw]; exact (by (with_reducible repeat (first | apply Kd.R_alloc | apply Kd.R_drewN | apply Kd.R_drew)); exact Kd.R_mono (Kd.R_far (p := ⟨gb362, 1, none⟩) (Kd.R_far (p := ⟨gb362, 0, none⟩) (Kd.R_types HO_360000.out BK362.out (by decide)) (fun _ hk => hk.2) (.int .i64 ((rd_T63 l0_1 x15_1).f0))) (fun _ hk => hk.2) (.string ((rd_T63 l0_1 x15_1).f1))) (fun _ hk => trivial)))⟩; have n1_ : Aside0 (Kd.R k63 63 w30 w.heap.size (fun k_ => k_ ≠ gb362) (.slice Ao15 t356.length co15) t356) := ⟨(by rw [hw]; exact (by (with_reducible repeat (first | apply Kd.R_alloc | apply Kd.R_drewN | apply Kd.R_drew)); exact Kd.R_mono (Kd.R_far (p := ⟨gb362, 1, none⟩) (Kd.R_far (p := ⟨gb362, 0, none⟩) (Kd.R_mono HO_360001.out (fun k_ hk => (⟨hk, hk.2⟩ : _ ∧ k_ ≠ gb362))) (fun _ hk => hk.2) (.int .i64 ((rd_T63 l0_1 x15_1).f0))) (fun _ hk => hk.2) (.string ((rd_T63 l0_1 x15_1).f1))) (fun _ hk => hk.1.2)))⟩; have n2_ : Aside0 (w30.heap[gb351]? = some (.cells #[.slice A0_0 l0_0.length c0_0, .slice (some ad361) l0_1.length c0_1] 27 (0, 0))) := ⟨(by rw [hw]; exact (bT BK351 (nC NB351_362 nN)))⟩; have n3_ : Aside0 (w30.heap[gb352]? = some (.cells #[.slice none 0 0, .slice none 0 0] 27 (0, 0))) := ⟨(by rw [hw]; exact (bT BK352 (nC NB352_362 nN)))⟩; have n4_ : Aside0 (w30.heap[gb359]? = some (.cells #[u360000, .slice Ao15 t356.length co15] 27 (0, 0))) := ⟨(by rw [hw]; exact (bT BK359 (nC NB359_362 nN)))⟩; have n5_ : Aside0 (w30.heap[gb362]? = some (.cells #[.int .i64 ((rd_T63 l0_1 x15_1).f0), .string ((rd_T63 l0_1 x15_1).f1)] 63 (0, 0))) := ⟨(by rw [hw]; exact (by (with_reducible repeat (first | refine blk_drewN ?_ _ | refine blk_drew ?_ | refine blk_alloc ?_ _)); refine blk_put (cs := #[.int .i64 ((rd_T63 l0_1 x15_1).f0), .string (⟨#[]⟩ : ByteArray)]) ?_ 1 _ rfl; (with_reducible repeat (first | refine blk_drewN ?_ _ | refine blk_drew ?_ | refine blk_alloc ?_ _)); refine blk_put (cs := #[.int .i64 0, .string (⟨#[]⟩ : ByteArray)]) ?_ 0 _ rfl; (with_reducible repeat (first | refine blk_drewN ?_ _ | refine blk_drew ?_ | refine blk_alloc ?_ _)); exact BK362.out))⟩; have n6_ : Aside0 (Below w.heap.size w w30) := ⟨(by rw [hw]; exact (lT HB (gC GE351 (gC GE352 (gC GE359 (gC GE362 gN))))))⟩; clear hw; clear HO_360000; clear HO_360001; clear BK351; clear BK352; clear BK359; clear BK362; clear HB; have HO_360000 := n0_; have HO_360001 := n1_; have BK351 := n2_; have BK352 := n3_; have BK359 := n4_; have BK362 := n5_; have HB := n6_; clear n0_ n1_ n2_ n3_ n4_ n5_ n6_; have hnb31 := NB359_351.out; have hnc31 := NB351_359.out; have hnb32 := NB359_352.out; have hnc32 := NB352_359.out; obtain ⟨hcz33_0, hcz33_1, hfz33_0, hfz33_1⟩ := bC2 BK359; obtain ⟨hcz34_0, hcz34_1, hfz34_0, hfz34_1⟩ := bC2 BK362; have p24 : 0 ≤ (((rd_T63 l0_1 x15_1).f0) : Int) := of_decide_eq_true (by first | (with_reducible assumption) | assumption); have q24 : (((rd_T63 l0_1 x15_1).f0) : Int) < ((x360000_1.length : Int) : Int) := of_decide_eq_true (by first | (with_reducible assumption) | assumption); obtain ⟨go24, co24, eo24, gb24, gl24, cl24, HG24⟩ := Kd.R_form HO_360000.out (by omega); (first | cases eo24 | (injection eo24 with ea_ en_ ec_; (first | subst ea_ | (injection ea_ with ea_; subst ea_)); subst ec_; clear en_)); have GB24 := Aside0.mk gb24; have GG24 := Aside0.mk HG24; clear gb24 gl24 HG24; obtain ⟨hx24_0, hf24_0⟩ := Kd.R_celln (⟨#[]⟩ : ByteArray) HO_360000.out (((rd_T63 l0_1 x15_1).f0) : Int) p24 q24; replace p24 := eq_true p24; replace q24 := eq_true q24; obtain ⟨hy35_, hz35_⟩ := Kd.R_celln (⟨#[]⟩ : ByteArray) HO_360000.out (((rd_T63 l0_1 x15_1).f0) : Int) (of_decide_eq_true (by first | (with_reducible assumption) | assumption)) (of_decide_eq_true (by first | (with_reducible assumption) | assumption)); have HP35 := Kd.R_putg HO_360000.out (((rd_T63 l0_1 x15_1).f0) : Int) ((rd_T63 l0_1 x15_1).f1)) | ((with_reducible refine gate_store (t := 9) (p := 25) rfl ?_); refine store_event (t := 9) (p := 25) (v := ?vo_w36) (w1 := (w30.setCell ⟨go24, (((rd_T63 l0_1 x15_1).f0) : Int).toNat, none⟩ (.string ((rd_T63 l0_1 x15_1).f1)))) ?hg ?ho ?hn ?hr ?_; (case ho => rfl); (case hg => rfl); (case hn => rfl); (case hr => first | (go_simp; done) | (go_simp; rfl)); intro w36 hw; have hg : w30.grownBy w36 (some go24) := (by rw [hw]; exact HP35.2); have hp_ : Kd.R Kd.string 9 w36 w.heap.size (fun _ => True) (.slice (some ⟨go24, 0, none⟩) x360000_1.length co24) y363 := (by rw [hw, Ny363.out]; exact HP35.1); clear HP35; replace HO_360001 := ak (Kd.R_over' (v := (.slice (some ⟨go24, 0, none⟩) x360000_1.length co24)) (rG HO_360001) (Kd.R_typed HO_360000.out) (by decide) hg); replace BK351 := ak (blk_grown (g := gb351) (o := .cells #[.slice A0_0 l0_0.length c0_0, .slice (some ad361) l0_1.length c0_1] 27 (0, 0)) (bG BK351) hg (Kd.R_ne HO_360000.out BK351.out (by decide))); replace BK352 := ak (blk_grown (g := gb352) (o := .cells #[.slice none 0 0, .slice none 0 0] 27 (0, 0)) (bG BK352) hg (Kd.R_ne HO_360000.out BK352.out (by decide))); replace BK359 := ak (blk_grown (g := gb359) (o := .cells #[.slice (some ⟨go24, 0, none⟩) x360000_1.length co24, .slice Ao15 t356.length co15] 27 (0, 0)) (bG BK359) hg (Kd.R_ne HO_360000.out BK359.out (by decide))); replace BK362 := ak (blk_grown (g := gb362) (o := .cells #[.int .i64 ((rd_T63 l0_1 x15_1).f0), .string ((rd_T63 l0_1 x15_1).f1)] 63 (0, 0)) (bG BK362) hg (Kd.R_ne HO_360000.out BK362.out (by decide))); replace HO_360000 := ak (hp_); replace HB := ak ((by rw [hw]; exact below_set (HB.out) GB24.out : Below w.heap.size w w36)); clear hg hw hp_))
         go_roundg k1
         case measure => have := HK1.out; omega
         case rel => exact ⟨(wrap64 (x15_1 + 1)), (y363), (.slice (some ⟨go24, 0, none⟩) x360000_1.length co24), (by first | rfl | (simp; done) | (simp [*]; done)), H', ⟨by have := HK1.out; omega⟩, ⟨by (with_reducible repeat (first | apply Kd.R_alloc | apply Kd.R_drewN | apply Kd.R_drew)); exact HO_360000.out⟩, ⟨by (with_reducible repeat (first | apply Kd.R_alloc | apply Kd.R_drewN | apply Kd.R_drew)); exact Kd.R_mono HO_360001.out (fun _ hk => trivial)⟩, ⟨by (with_reducible repeat (first | refine blk_drewN ?_ _ | refine blk_drew ?_ | refine blk_alloc ?_ _)); exact BK351.out⟩, ⟨by (with_reducible repeat (first | refine blk_drewN ?_ _ | refine blk_drew ?_ | refine blk_alloc ?_ _)); exact BK352.out⟩, ⟨by (with_reducible repeat (first | refine blk_drewN ?_ _ | refine blk_drew ?_ | refine blk_alloc ?_ _)); exact BK359.out⟩, ⟨by exact lT HB (gC GE351 (gC GE352 (gC GE359 (gC GE362 gN))))⟩⟩
        ·rw [if_neg c23] at H
         exact absurd H (by simp)
       ·rw [if_neg c22] at H
        exact absurd H (by simp)
      ·rw [if_neg c21] at H
       exact absurd H (by simp)
     ·rw [if_neg c20] at H
      exact absurd H (by simp)
    ·rw [if_neg c19] at H
     have c19b0 : decide (x15_1 < (l0_1.length : Int)) = false := decide_eq_false c19
     clear c19
     simp only [Option.some.injEq, Prod.mk.injEq] at H
     obtain ⟨rfl, rfl⟩ := H
     have hnb37 := NB359_351.out
     have hnc37 := NB351_359.out
     have hnb38 := NB359_352.out
     have hnc38 := NB352_359.out
     have hcz39_0 : wr.cell? ⟨gb359, 0, none⟩ = some (u360000) := (blk_cell BK359.out 0).trans rfl
     have hcz39_1 : wr.cell? ⟨gb359, 1, none⟩ = some (.slice Ao15 t356.length co15) := (blk_cell BK359.out 1).trans rfl
     have hfz39_0 := blk_frozen BK359.out 0
     have hfz39_1 := blk_frozen BK359.out 1
     obtain ⟨Ao40, co40, eo40⟩ := Kd.R_slice HO_360000.out
     subst eo40
     have hnb41 := NB352_351.out
     have hnc41 := NB351_352.out
     have hcz42_0 : wr.cell? ⟨gb352, 0, none⟩ = some (.slice none 0 0) := (blk_cell BK352.out 0).trans rfl
     have hcz42_1 : wr.cell? ⟨gb352, 1, none⟩ = some (.slice none 0 0) := (blk_cell BK352.out 1).trans rfl
     have hfz42_0 := blk_frozen BK352.out 0
     have hfz42_1 := blk_frozen BK352.out 1
     go_wp2
     refine bodyPost_ret (results_cell_row rfl _ _ gb352 27 #[.slice Ao40 x360000_1.length co40, .slice none 0 0] (0, 0) _ rfl (by (with_reducible repeat (first | refine blk_drewN ?_ _ | refine blk_drew ?_ | refine blk_alloc ?_ _)); refine blk_put (cs := #[.slice Ao40 x360000_1.length co40, .slice none 0 0]) ?_ 1 _ rfl; (with_reducible repeat (first | refine blk_drewN ?_ _ | refine blk_drew ?_ | refine blk_alloc ?_ _)); refine blk_put (cs := #[.slice none 0 0, .slice none 0 0]) ?_ 0 _ rfl; (with_reducible repeat (first | refine blk_drewN ?_ _ | refine blk_drew ?_ | refine blk_alloc ?_ _)); refine blk_far ?_ NB352_359.out _; (with_reducible repeat (first | refine blk_drewN ?_ _ | refine blk_drew ?_ | refine blk_alloc ?_ _)); exact BK352.out) Try.underlying27 rfl (by kernel_rfl)) rfl ?_
     exact ⟨_, _, by first | rfl | (simp [errW_none, errW_some] <;> rfl) | (simp [*, errW_none, errW_some] <;> rfl), by (with_reducible repeat (first | apply Kd.R_alloc | apply Kd.R_drewN | apply Kd.R_drew)); exact Kd.R_mono (Kd.R_far (p := ⟨gb352, 1, none⟩) (Kd.R_far (p := ⟨gb352, 0, none⟩) (Kd.R_far (p := ⟨gb359, 1, none⟩) (Kd.R_types (Kd.R_types HO_360000.out BK359.out (by decide)) BK352.out (by decide)) (fun _ hk => hk.1.2) (.slice none 0 0)) (fun _ hk => hk.2) (.slice Ao40 x360000_1.length co40)) (fun _ hk => hk.2) (.slice none 0 0)) (fun _ hk => trivial), by first | exact Kd.R_nil _ _ _ _ _ | exact Kd.N_nil _ _ _ _ _ | exact Kd.V_nil _ _ _ _ _ | exact Kd.Q_nil _ _ _ _ _ | exact Kd.S_nil _ _ _ _ _, by exact lT HB (gC GE351 (gC GE352 (gC GE359 gN)))⟩
 ·replace c4 := Bool.eq_false_iff.mpr c4
  subst c4
  have H1 : (some (t353, t356)) = some (r1, r2) := by rw [if_neg (show ¬ (false = true) by decide)] at H; exact H
  clear H
  have H := H1
  clear H1
  simp only [Option.some.injEq, Prod.mk.injEq] at H
  obtain ⟨rfl, rfl⟩ := H
  go_enter Try.func13, Try.ntmps13
  go_wp2_with (first | ((with_reducible refine gate_dst (N := 1) rfl ?_); refine box_event ?hg (N := 1) ?hd (cs := #[.slice A0_0 l0_0.length c0_0, .slice A0_1 l0_1.length c0_1]) (t := 27) ?hr ?_; (case hd => rfl); (case hg => rfl); (case hr => first | (go_simp; done) | (go_simp; rfl)); intro gb351 hg w43 hbox hb; replace BK351 := ak (hbox); replace GW351 := ak ((by rw [hg]; exact (below_size (lG HB)) : w.heap.size ≤ gb351)); replace GE351 := ak ((by rw [hg]; exact (below_size (lG HB)) : w.heap.size ≤ gb351)); replace HB := lB HB hb; clear hb hbox hg) | ((with_reducible refine gate_dst (N := 2) rfl ?_); refine box_event ?hg (N := 2) ?hd (cs := #[.slice none 0 0, .slice none 0 0]) (t := 27) ?hr ?_; (case hd => rfl); (case hg => rfl); (case hr => first | (go_simp; done) | (go_simp; rfl)); intro gb352 hg w44 hbox hb; replace BK352 := ak (hbox); replace GW352 := ak ((by rw [hg]; exact (below_size (lT HB (gC GE351 gN))) : w.heap.size ≤ gb352)); replace GE352 := ak ((by rw [hg]; exact (below_size (lT HB (gC GE351 gN))) : w.heap.size ≤ gb352)); replace HB := ak (below_step (lT HB (gC GE351 gN)) hb); replace NB351_352 := ak ((by rw [hg]; exact Nat.ne_of_lt (blk_lt (bG BK351)) : gb351 ≠ gb352)); replace NB352_351 := ak ((by rw [hg]; exact Nat.ne_of_gt (blk_lt (bG BK351)) : gb352 ≠ gb351)); replace BK351 := bB BK351 hb; clear hb hbox hg; have hnb45 := NB351_352.out; have hnc45 := NB352_351.out; obtain ⟨hcz46_0, hcz46_1, hfz46_0, hfz46_1⟩ := bC2 BK351) | ((with_reducible refine gate_callee (f := 48) rfl ?_); refine goesL_ (some 7) rfl rfl Try.func48 (by kernel_rfl) rfl #[.agg #[.slice A0_0 l0_0.length c0_0, .slice A0_1 l0_1.length c0_1]] rfl (by (try simp only [List.map_toArray, List.map_cons, List.map_nil]); first | done | rfl | (simp only [List.length_drop, List.length_take]; rfl)) ?_; (with_reducible refine (impl_cloneDisk.calls _ _ l0_0 _ _ l0_1 t353 t356 _ ?side1 ?side2 ?side3 ?side4 A2.out).mono ?_); (case side1 => exact cG (Kd.C_below HR0_0.out HB.out)); (case side2 => exact HC0_0.out); (case side3 => exact cG (Kd.C_below HR0_1.out HB.out)); (case side4 => exact HC0_1.out); rintro e w47 ⟨v354, v357, rfl, ho0, ho1, hb⟩; refine ⟨_, rfl, ?_⟩; replace HO355 := ak (Kd.R_lower ho0 (below_size (lT HB (gC GE351 (gC GE352 gN))))); replace HO358 := ak (Kd.R_lower ho1 (below_size (lT HB (gC GE351 (gC GE352 gN))))); replace BK351 := bB BK351 hb; replace BK352 := bB BK352 hb; replace HB := ak (below_step (lT HB (gC GE351 (gC GE352 gN))) hb); (try clear hb); (try clear hb2); (try clear hk); (try clear hi); (try clear ho0); (try clear ho1)) | ((with_reducible refine gate_dst (N := 3) rfl ?_); refine box_event ?hg (N := 3) ?hd (cs := #[.slice none 0 0, .slice none 0 0]) (t := 27) ?hr ?_; (case hd => rfl); (case hg => rfl); (case hr => first | (go_simp; done) | (go_simp; rfl)); intro gb359 hg w48 hbox hb; replace HO355 := rB HO355 hb; replace HO358 := rB HO358 hb; replace BK359 := ak (hbox); replace GW359 := ak ((by rw [hg]; exact (below_size (lT HB (gC GE351 (gC GE352 gN)))) : w.heap.size ≤ gb359)); replace GE359 := ak ((by rw [hg]; exact (below_size (lT HB (gC GE351 (gC GE352 gN)))) : w.heap.size ≤ gb359)); replace HB := ak (below_step (lT HB (gC GE351 (gC GE352 gN))) hb); replace NB351_359 := ak ((by rw [hg]; exact Nat.ne_of_lt (blk_lt (bG BK351)) : gb351 ≠ gb359)); replace NB359_351 := ak ((by rw [hg]; exact Nat.ne_of_gt (blk_lt (bG BK351)) : gb359 ≠ gb351)); replace BK351 := bB BK351 hb; replace NB352_359 := ak ((by rw [hg]; exact Nat.ne_of_lt (blk_lt (bG BK352)) : gb352 ≠ gb359)); replace NB359_352 := ak ((by rw [hg]; exact Nat.ne_of_gt (blk_lt (bG BK352)) : gb359 ≠ gb352)); replace BK352 := bB BK352 hb; clear hb hbox hg; obtain ⟨Ao49, co49, eo49⟩ := Kd.R_slice HO355.out; subst eo49; have hnb50 := NB359_351.out; have hnc50 := NB351_359.out; have hnb51 := NB359_352.out; have hnc51 := NB352_359.out; obtain ⟨hcz52_0, hcz52_1, hfz52_0, hfz52_1⟩ := bC2 BK359; obtain ⟨Ao53, co53, eo53⟩ := Kd.R_slice HO358.out; subst eo53; obtain ⟨hcz54_0, hcz54_1, hfz54_0, hfz54_1⟩ := bC2 BK351) | ((with_reducible refine gate_callee (f := 16) rfl ?_); refine goesL_ (some 9) rfl rfl Try.func16 (by kernel_rfl) rfl #[.agg #[.slice A0_0 l0_0.length c0_0, .slice A0_1 l0_1.length c0_1]] rfl (by (try simp only [List.map_toArray, List.map_cons, List.map_nil]); first | done | rfl | (simp only [List.length_drop, List.length_take]; rfl)) ?_; (with_reducible refine (impl_DiskOk.calls _ _ l0_0 _ _ l0_1 false _ ?side1 ?side2 ?side3 ?side4 A3.out).mono ?_); (case side1 => exact Kd.C_below HR0_0.out (lT HB (gC GE351 (gC GE352 (gC GE359 gN))))); (case side2 => exact HC0_0.out); (case side3 => exact Kd.C_below HR0_1.out (lT HB (gC GE351 (gC GE352 (gC GE359 gN))))); (case side4 => exact HC0_1.out); rintro e w55 ⟨rfl, hb⟩; refine ⟨_, rfl, ?_⟩; replace HO355 := ak (Kd.R_below (rT HO355 BK359 (by decide)) hb); replace HO358 := ak (Kd.R_below (rT HO358 BK359 (by decide)) hb); replace BK351 := ak (blk_below (bT BK351 (nC NB351_359 nN)) hb); replace BK352 := ak (blk_below (bT BK352 (nC NB352_359 nN)) hb); replace BK359 := ak (blk_below (g := gb359) (o := .cells #[.slice Ao49 t353.length co49, .slice Ao53 t356.length co53] 27 (0, 0)) (by (with_reducible repeat (first | refine blk_drewN ?_ _ | refine blk_drew ?_ | refine blk_alloc ?_ _)); refine blk_put (cs := #[.slice Ao49 t353.length co49, .slice none 0 0]) ?_ 1 _ rfl; (with_reducible repeat (first | refine blk_drewN ?_ _ | refine blk_drew ?_ | refine blk_alloc ?_ _)); refine blk_put (cs := #[.slice none 0 0, .slice none 0 0]) ?_ 0 _ rfl; (with_reducible repeat (first | refine blk_drewN ?_ _ | refine blk_drew ?_ | refine blk_alloc ?_ _)); exact BK359.out) hb); replace HB := ak (below_step (lT HB (gC GE351 (gC GE352 (gC GE359 gN)))) hb); (try clear hb); (try clear hb2); (try clear hk); (try clear hi); obtain ⟨hcz56_0, hcz56_1, hfz56_0, hfz56_1⟩ := bC2 BK359; obtain ⟨hcz57_0, hcz57_1, hfz57_0, hfz57_1⟩ := bC2 BK352))
  refine bodyPost_ret (results_cell_row rfl _ _ gb352 27 #[.slice Ao49 t353.length co49, .slice Ao53 t356.length co53] (0, 0) _ rfl (by (with_reducible repeat (first | refine blk_drewN ?_ _ | refine blk_drew ?_ | refine blk_alloc ?_ _)); refine blk_put (cs := #[.slice Ao49 t353.length co49, .slice none 0 0]) ?_ 1 _ rfl; (with_reducible repeat (first | refine blk_drewN ?_ _ | refine blk_drew ?_ | refine blk_alloc ?_ _)); refine blk_put (cs := #[.slice none 0 0, .slice none 0 0]) ?_ 0 _ rfl; (with_reducible repeat (first | refine blk_drewN ?_ _ | refine blk_drew ?_ | refine blk_alloc ?_ _)); exact BK352.out) Try.underlying27 rfl (by kernel_rfl)) rfl ?_
  exact ⟨_, _, by first | rfl | (simp [errW_none, errW_some] <;> rfl) | (simp [*, errW_none, errW_some] <;> rfl), by (with_reducible repeat (first | apply Kd.R_alloc | apply Kd.R_drewN | apply Kd.R_drew)); exact Kd.R_mono (Kd.R_far (p := ⟨gb352, 1, none⟩) (Kd.R_far (p := ⟨gb352, 0, none⟩) (Kd.R_types HO355.out BK352.out (by decide)) (fun _ hk => hk.2) (.slice Ao49 t353.length co49)) (fun _ hk => hk.2) (.slice Ao53 t356.length co53)) (fun _ hk => trivial), by (with_reducible repeat (first | apply Kd.R_alloc | apply Kd.R_drewN | apply Kd.R_drew)); exact Kd.R_mono (Kd.R_far (p := ⟨gb352, 1, none⟩) (Kd.R_far (p := ⟨gb352, 0, none⟩) (Kd.R_types HO358.out BK352.out (by decide)) (fun _ hk => hk.2) (.slice Ao49 t353.length co49)) (fun _ hk => hk.2) (.slice Ao53 t356.length co53)) (fun _ hk => trivial), by exact lT HB (gC GE351 (gC GE352 (gC GE359 gN)))⟩

end Go.Proofs.Ytjpngldnkgofaaa.PFnTorn
