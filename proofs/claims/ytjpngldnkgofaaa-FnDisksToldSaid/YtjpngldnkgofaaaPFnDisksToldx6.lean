-- Written for this claim by a program of mine (a turned copy of the kit's print): functions as plain Lean, and their contracts. Lean checks it.
import Derived.Test.YtjpngldnkgofaaaPFnDisksToldx0
import Derived.Test.YtjpngldnkgofaaaPFnDisksToldx4
import Derived.Test.YtjpngldnkgofaaaPFnDisksToldx5
import Derived.Test.YtjpngldnkgofaaaVFnDisksTold1
namespace Go.Proofs.Ytjpngldnkgofaaa.PFnDisksTold
open Go.RowKit Go.Proofs.YtjpngldnkgofaaaW.PrintWords Go.Proofs.YtjpngldnkgofaaaW.PrintLast Go.Proofs.YtjpngldnkgofaaaW.PrintMore
attribute [local go_sem] max2_int min2_int max_two min_two max_three min_three max_four min_four   -- for this text's walks alone
set_option linter.unusedVariables false
set_option linter.unusedSimpArgs false

/-! ### spec_l03Copy: function 58 -/
def spec_l03Copy.f (l0_0 : List ByteArray) (l0_1 : List (S63)) : Option (List ByteArray × (List (S63))) := (some (([] : List ByteArray) : List ByteArray)).bind fun y162 => (if y162.length + l0_0.length < 8796093022208 then ((some (([] : List (S63)) : List (S63))).bind fun y168 => (if y168.length + l0_1.length < 5864062014805 then (some ((y162 ++ l0_0), (y168 ++ l0_1))) else (none))) else (none))
def spec_l03Copy.T1 : Bool × List (List Nat × List Nat) := (true, [([], []), ([], []), ([1], [1]), ([0, 2], [0, 2]), ([], []), ([], []), ([5], [5]), ([4, 6, 3], [4, 6]), ([3, 7], [3, 7]), ([8, 7, 0, 1, 2, 3, 4, 5, 6, 7, 8], [8])])
def spec_l03Copy.B1 : List Nat := [0, 0, 2, 7, 0, 0, 32, 127, 255, 511]
theorem spec_l03Copy.tab1 : rtab .any (opsOf Try.f58 1) = spec_l03Copy.T1 := by kernel_rfl
theorem spec_l03Copy.bits1 : waitsOk spec_l03Copy.T1.2 spec_l03Copy.B1 = true := by kernel_rfl
set_option maxHeartbeats 8000000 in
set_option maxRecDepth 100000 in
theorem spec_l03Copy.calls (A0_0 : Option Addr) (c0_0 : Nat) (l0_0 : List ByteArray) (A0_1 : Option Addr) (c0_1 : Nat) (l0_1 : List (S63)) (r1 : List ByteArray) (r2 : List (S63)) (w : World) (hr0_0 : Kd.C Kd.string w A0_0 l0_0.length l0_0) (hc0_0 : l0_0.length ≤ c0_0) (hr0_1 : Kd.C k63 w A0_1 l0_1.length l0_1) (hc0_1 : l0_1.length ≤ c0_1) (h : spec_l03Copy.f l0_0 l0_1 = some (r1, r2)) :
  Calls Try.prog 58 #[.agg #[.slice A0_0 l0_0.length c0_0, .slice A0_1 l0_1.length c0_1]] w fun e w' => ∃ v0_ v1_ : Value, e = .returned (.agg #[v0_, v1_]) ∧ Kd.R Kd.string 9 w' w.heap.size (fun _ => True) v0_ r1 ∧ Kd.R k63 63 w' w.heap.size (fun _ => True) v1_ r2 ∧ Below w.heap.size w w' := by
 have hu27 := Try.underlying27
 have HR0_0 := Aside0.mk hr0_0
 have HC0_0 := Aside0.mk hc0_0
 clear hr0_0 hc0_0
 have HR0_1 := Aside0.mk hr0_1
 have HC0_1 := Aside0.mk hc0_1
 clear hr0_1 hc0_1
 have HB := ak (Below.refl w.heap.size w)
 have H : ((some (([] : List ByteArray) : List ByteArray)).bind fun y162 => (if y162.length + l0_0.length < 8796093022208 then ((some (([] : List (S63)) : List (S63))).bind fun y168 => (if y168.length + l0_1.length < 5864062014805 then (some ((y162 ++ l0_0), (y168 ++ l0_1))) else (none))) else (none))) = some (r1, r2) := h
 clear h
 obtain ⟨y162, hy162⟩ : ∃ y_ : List ByteArray, y_ = (([] : List ByteArray)) := ⟨_, rfl⟩
 replace H : (if y162.length + l0_0.length < 8796093022208 then ((some (([] : List (S63)) : List (S63))).bind fun y168 => (if y168.length + l0_1.length < 5864062014805 then (some ((y162 ++ l0_0), (y168 ++ l0_1))) else (none))) else (none)) = some (r1, r2) := by first | (rw [hy162]; with_reducible exact H) | (have H2_ := (Option.bind_some _ _).symm.trans H; rw [hy162]; with_reducible exact H2_) | (have H2_ := (Option.bind_some _ _).symm.trans H; with_reducible exact H2_) | with_reducible exact H | (rw [hy162]; exact H) | exact H
 have Ny162 := Aside0.mk hy162
 clear hy162
 by_cases c2 : y162.length + l0_0.length < 8796093022208
 ·rw [if_pos c2] at H
  have LMc2 := Aside0.mk c2
  clear c2
  obtain ⟨y165, hy165⟩ : ∃ y_ : List ByteArray, y_ = (y162 ++ l0_0) := ⟨_, rfl⟩
  replace H : ((some (([] : List (S63)) : List (S63))).bind fun y168 => (if y168.length + l0_1.length < 5864062014805 then (some (y165, (y168 ++ l0_1))) else (none))) = some (r1, r2) := by first | (rw [hy165]; with_reducible exact H) | (have H2_ := (Option.bind_some _ _).symm.trans H; rw [hy165]; with_reducible exact H2_) | (have H2_ := (Option.bind_some _ _).symm.trans H; with_reducible exact H2_) | with_reducible exact H | (rw [hy165]; exact H) | exact H
  have Ny165 := Aside0.mk hy165
  clear hy165
  obtain ⟨y168, hy168⟩ : ∃ y_ : List (S63), y_ = (([] : List (S63))) := ⟨_, rfl⟩
  replace H : (if y168.length + l0_1.length < 5864062014805 then (some (y165, (y168 ++ l0_1))) else (none)) = some (r1, r2) := by first | (rw [hy168]; with_reducible exact H) | (have H2_ := (Option.bind_some _ _).symm.trans H; rw [hy168]; with_reducible exact H2_) | (have H2_ := (Option.bind_some _ _).symm.trans H; with_reducible exact H2_) | with_reducible exact H | (rw [hy168]; exact H) | exact H
  have Ny168 := Aside0.mk hy168
  clear hy168
  by_cases c3 : y168.length + l0_1.length < 5864062014805
  ·rw [if_pos c3] at H
   have LMc3 := Aside0.mk c3
   clear c3
   obtain ⟨y171, hy171⟩ : ∃ y_ : List (S63), y_ = (y168 ++ l0_1) := ⟨_, rfl⟩
   replace H : (some (y165, y171)) = some (r1, r2) := by first | (rw [hy171]; with_reducible exact H) | (have H2_ := (Option.bind_some _ _).symm.trans H; rw [hy171]; with_reducible exact H2_) | (have H2_ := (Option.bind_some _ _).symm.trans H; with_reducible exact H2_) | with_reducible exact H | (rw [hy171]; exact H) | exact H
   have Ny171 := Aside0.mk hy171
   clear hy171
   simp only [Option.some.injEq, Prod.mk.injEq] at H
   obtain ⟨rfl, rfl⟩ := H
   go_enter Try.func58, Try.ntmps58
   try go_wp2_with (first | ((with_reducible refine gate_dst (N := 1) rfl ?_); refine bx 1 #[.slice A0_0 l0_0.length c0_0, .slice A0_1 l0_1.length c0_1] 27 ?_; intro gb160 hg w4 hbox hb; replace BK160 := ak (hbox); replace GW160 := ak (bz hg (lG HB)); replace GE160 := ak (bz hg (lG HB)); replace HB := lB HB hb; clear hb hbox hg) | ((with_reducible refine gate_dst (N := 2) rfl ?_); refine bx 2 #[.slice none 0 0, .slice none 0 0] 27 ?_; intro gb161 hg w5 hbox hb; replace BK161 := ak (hbox); replace GW161 := ak (bz hg (lT HB (gC GE160 gN))); replace GE161 := ak (bz hg (lT HB (gC GE160 gN))); replace HB := ak (below_step (lT HB (gC GE160 gN)) hb); replace NB160_161 := ak (nl hg (bG BK160)); replace NB161_160 := ak (ng hg (bG BK160)); replace BK160 := bB BK160 hb; clear hb hbox hg))
   replace BK160 := ak (blk_drew BK160.out)
   replace BK161 := ak (blk_drew BK161.out)
   replace HB := ak (below_drew1 HB.out)
   refine start_ (n := 10) (S := fun w' => w'.cell? ⟨gb160, 0, none⟩ = some (.slice A0_0 l0_0.length c0_0) ∧ w'.cell? ⟨gb160, 1, none⟩ = some (.slice A0_1 l0_1.length c0_1)) (ds := []) #[f_,f_,f_,f_,f_,f_,f_,f_,f_,f_] (by kernel_rfl) rfl rfl ⟨bc BK160 0, bc BK160 1⟩ (fun hHeld => ?_); refine with_tabW spec_l03Copy.tab1 spec_l03Copy.bits1 (fun HT_ HW_ => ?_)
   generalize w5.drew = w6 at BK160 BK161 HB hHeld ⊢
   refine pu 1 4 (fb 10 2) HT_ ?_
   refine pu 5 8 (fb 10 34) HT_ ?_
   refine tk 2 5 (fb 10 38) HT_ HW_ hHeld ?_
   refine tk 6 9 (fb 10 102) HT_ HW_ hHeld ?_
   refine join_ (σ := Value × Value × Value) 3 #[t_,t_,t_,t_,t_,t_,t_,f_,f_,f_] (fun s_ => [(3, s_.1), (6, s_.2.1), (7, s_.2.2)]) (fun s_ w' => (w'.cell? ⟨gb160, 0, none⟩ = some (.slice A0_0 l0_0.length c0_0) ∧ w'.cell? ⟨gb160, 1, none⟩ = some (.slice A0_1 l0_1.length c0_1)) ∧ (Kd.R Kd.string 9 w' w.heap.size (fun _ => True) s_.2.1 y165) ∧ (Kd.R k63 63 w' w.heap.size (fun _ => True) s_.2.2 y168) ∧ (w'.heap[gb160]? = some (.cells #[.slice A0_0 l0_0.length c0_0, .slice A0_1 l0_1.length c0_1] 27 (0, 0))) ∧ (w'.heap[gb161]? = some (.cells #[.slice none 0 0, .slice none 0 0] 27 (0, 0))) ∧ (Below w.heap.size w w')) ?_ ?_
   rotate_left
   ·intro hCont
    refine two_ (i := 0) (j := 4) (Ni := some 3) (Nj := some 7) #[t_,t_,t_,f_,f_,t_,t_,f_,f_,f_] #[f_,t_,t_,f_,t_,t_,t_,f_,f_,f_] rfl rfl rfl rfl (two_of HT_.out (by kernel_rfl)) (by decide) (by decide) (fun K hK => ?_) (fun K hK => ?_)
    ·skip
     refine Kd.R_lit_step Kd.string _ 9 ?hg (N := 3) ?hd (xs := ([] : List ByteArray)) (inner := []) (ok := fun _ => True) (okp := fun _ => True) ?hr ?hp (fun _ hk => hk) trivial (Below.refl _ _) (Nat.le_refl _) (by simp) ?_; (case hd => rfl); (case hg => rfl); (case hr => first | (go_simp; done) | (go_simp; rfl)); (case hp => exact (Reps.none _ _))
     intro v163 w7 ho8 hb hg_ hnew_
     clear hg_ hnew_
     (first | rw [← Ny162.out] at ho8 | (simp only [Int.reduceToNat] at ho8; rw [← Ny162.out] at ho8))
     replace HO164 := ak (Kd.R_lower ho8 (below_size (lT HB (gC GE160 (gC GE161 gN)))))
     replace BK160 := bB BK160 hb
     replace BK161 := bB BK161 hb
     replace HB := ak (below_step (lT HB (gC GE160 (gC GE161 gN))) hb)
     clear hb ho8
     refine hK.out _ _ ⟨bc BK160 0, bc BK160 1⟩ (fun hHeld => ?_)
     clear hK K
     refine nm ?_
     refine two_ (i := 3) (j := 4) (Ni := some 6) (Nj := some 7) #[t_,t_,t_,t_,f_,t_,t_,f_,f_,f_] #[t_,t_,t_,f_,t_,t_,t_,f_,f_,f_] rfl rfl rfl rfl (two_of HT_.out (by kernel_rfl)) (by decide) (by decide) (fun K hK => ?_) (fun K hK => ?_)
     ·skip
      refine Kd.R_append_rows_step Kd.string (w0 := w) w.heap.size (by rfl) (.tmp 3) (.tmp 5) 24 9 (.string ⟨#[]⟩) 16 rfl Try.underlying24 info9 rfl (by decide) (by omega) v163 y162 l0_0 _ _ _ (fun _ => True) (fun _ => False) rfl rfl ?aO ?aR (fun _ _ h => h) (fun _ h => h.elim) ?aF ?aB ?aS ?aL ?_
      (case aR => exact cG (Kd.C_below HR0_0.out HB.out))
      (case aB => exact (lT HB (gC GE160 (gC GE161 gN))))
      (case aF => exact (fun _ _ => trivial))
      (case aO => exact (rG HO164))
      (case aS => exact (below_size (lT HB (gC GE160 (gC GE161 gN)))))
      (case aL => have := LMc2.out; omega)
      intro v166 w9 ho hb hg hat
      rw [← Ny165.out] at ho
      have n0_ := ak (blk_grown (g := gb160) (o := .cells #[.slice A0_0 l0_0.length c0_0, .slice A0_1 l0_1.length c0_1] 27 (0, 0)) (bG BK160) hg (Kd.R_ne HO164.out BK160.out (by decide)))
      have n1_ := ak (blk_grown (g := gb161) (o := .cells #[.slice none 0 0, .slice none 0 0] 27 (0, 0)) (bG BK161) hg (Kd.R_ne HO164.out BK161.out (by decide)))
      have n2_ := ak (hb)
      have n3_ := ak (ho)
      clear BK160
      clear BK161
      clear HB
      clear HO164
      have BK160 := n0_
      have BK161 := n1_
      have HB := n2_
      have HO167 := n3_
      clear n0_ n1_ n2_ n3_
      clear ho hb hg hat
      refine hK.out _ _ ⟨bc BK160 0, bc BK160 1⟩ (fun hHeld => ?_)
      clear hK K
      refine nm ?_
      refine on 4 (some 7) (fb 10 127) HT_ (fun K hK => ?_)
      refine Kd.R_lit_step k63 _ 63 ?hg (N := 7) ?hd (xs := ([] : List (S63))) (inner := []) (ok := fun _ => True) (okp := fun _ => True) ?hr ?hp (fun _ hk => hk) trivial (Below.refl _ _) (Nat.le_refl _) (by simp) ?_; (case hd => rfl); (case hg => rfl); (case hr => first | (go_simp; done) | (go_simp; rfl)); (case hp => exact (Reps.none _ _))
      intro v169 w10 ho11 hb hg_ hnew_
      clear hg_ hnew_
      (first | rw [← Ny168.out] at ho11 | (simp only [Int.reduceToNat] at ho11; rw [← Ny168.out] at ho11))
      replace HO167 := rB HO167 hb
      replace HO170 := ak (Kd.R_lower ho11 (below_size (lT HB (gC GE160 (gC GE161 gN)))))
      replace BK160 := bB BK160 hb
      replace BK161 := bB BK161 hb
      replace HB := ak (below_step (lT HB (gC GE160 (gC GE161 gN))) hb)
      clear hb ho11
      refine hK.out _ _ ⟨bc BK160 0, bc BK160 1⟩ (fun hHeld => ?_)
      clear hK K
      refine nm ?_
      exact norm_ (by simp only [putAll, Act.put, List.setIfInBounds_toArray, List.set_cons_zero, List.set_cons_succ]) (hCont (v163, v166, v169) _ ⟨hHeld, (rG HO167), (rG HO170), (bG BK160), (bG BK161), (lT HB (gC GE160 (gC GE161 gN)))⟩)
     ·skip
      refine Kd.R_lit_step k63 _ 63 ?hg (N := 7) ?hd (xs := ([] : List (S63))) (inner := []) (ok := fun _ => True) (okp := fun _ => True) ?hr ?hp (fun _ hk => hk) trivial (Below.refl _ _) (Nat.le_refl _) (by simp) ?_; (case hd => rfl); (case hg => rfl); (case hr => first | (go_simp; done) | (go_simp; rfl)); (case hp => exact (Reps.none _ _))
      intro v169 w9 ho10 hb hg_ hnew_
      clear hg_ hnew_
      (first | rw [← Ny168.out] at ho10 | (simp only [Int.reduceToNat] at ho10; rw [← Ny168.out] at ho10))
      replace HO164 := rB HO164 hb
      replace HO170 := ak (Kd.R_lower ho10 (below_size (lT HB (gC GE160 (gC GE161 gN)))))
      replace BK160 := bB BK160 hb
      replace BK161 := bB BK161 hb
      replace HB := ak (below_step (lT HB (gC GE160 (gC GE161 gN))) hb)
      clear hb ho10
      refine hK.out _ _ ⟨bc BK160 0, bc BK160 1⟩ (fun hHeld => ?_)
      clear hK K
      refine nm ?_
      refine on 3 (some 6) (fb 10 127) HT_ (fun K hK => ?_)
      refine Kd.R_append_rows_step Kd.string (w0 := w) w.heap.size (by rfl) (.tmp 3) (.tmp 5) 24 9 (.string ⟨#[]⟩) 16 rfl Try.underlying24 info9 rfl (by decide) (by omega) v163 y162 l0_0 _ _ _ (fun _ => True) (fun _ => False) rfl rfl ?aO ?aR (fun _ _ h => h) (fun _ h => h.elim) ?aF ?aB ?aS ?aL ?_
      (case aR => exact cG (Kd.C_below HR0_0.out HB.out))
      (case aB => exact (lT HB (gC GE160 (gC GE161 gN))))
      (case aF => exact (fun _ _ => trivial))
      (case aO => exact (rG HO164))
      (case aS => exact (below_size (lT HB (gC GE160 (gC GE161 gN)))))
      (case aL => have := LMc2.out; omega)
      intro v166 w11 ho hb hg hat
      rw [← Ny165.out] at ho
      have n0_ := ak (blk_grown (g := gb160) (o := .cells #[.slice A0_0 l0_0.length c0_0, .slice A0_1 l0_1.length c0_1] 27 (0, 0)) (bG BK160) hg (Kd.R_ne HO164.out BK160.out (by decide)))
      have n1_ := ak (blk_grown (g := gb161) (o := .cells #[.slice none 0 0, .slice none 0 0] 27 (0, 0)) (bG BK161) hg (Kd.R_ne HO164.out BK161.out (by decide)))
      have n2_ := ak (Kd.R_over' (rG HO170) (Kd.R_typed (rG HO164)) (by decide) hg)
      have n3_ := ak (hb)
      have n4_ := ak (ho)
      clear BK160
      clear BK161
      clear HO170
      clear HB
      clear HO164
      have BK160 := n0_
      have BK161 := n1_
      have HO170 := n2_
      have HB := n3_
      have HO167 := n4_
      clear n0_ n1_ n2_ n3_ n4_
      clear ho hb hg hat
      refine hK.out _ _ ⟨bc BK160 0, bc BK160 1⟩ (fun hHeld => ?_)
      clear hK K
      refine nm ?_
      exact norm_ (by simp only [putAll, Act.put, List.setIfInBounds_toArray, List.set_cons_zero, List.set_cons_succ]) (hCont (v163, v166, v169) _ ⟨hHeld, (rG HO167), (rG HO170), (bG BK160), (bG BK161), (lT HB (gC GE160 (gC GE161 gN)))⟩)
    ·skip
     refine Kd.R_lit_step k63 _ 63 ?hg (N := 7) ?hd (xs := ([] : List (S63))) (inner := []) (ok := fun _ => True) (okp := fun _ => True) ?hr ?hp (fun _ hk => hk) trivial (Below.refl _ _) (Nat.le_refl _) (by simp) ?_; (case hd => rfl); (case hg => rfl); (case hr => first | (go_simp; done) | (go_simp; rfl)); (case hp => exact (Reps.none _ _))
     intro v169 w7 ho8 hb hg_ hnew_
     clear hg_ hnew_
     (first | rw [← Ny168.out] at ho8 | (simp only [Int.reduceToNat] at ho8; rw [← Ny168.out] at ho8))
     replace HO170 := ak (Kd.R_lower ho8 (below_size (lT HB (gC GE160 (gC GE161 gN)))))
     replace BK160 := bB BK160 hb
     replace BK161 := bB BK161 hb
     replace HB := ak (below_step (lT HB (gC GE160 (gC GE161 gN))) hb)
     clear hb ho8
     refine hK.out _ _ ⟨bc BK160 0, bc BK160 1⟩ (fun hHeld => ?_)
     clear hK K
     refine nm ?_
     refine on 0 (some 3) (fb 10 119) HT_ (fun K hK => ?_)
     refine Kd.R_lit_step Kd.string _ 9 ?hg (N := 3) ?hd (xs := ([] : List ByteArray)) (inner := []) (ok := fun _ => True) (okp := fun _ => True) ?hr ?hp (fun _ hk => hk) trivial (Below.refl _ _) (Nat.le_refl _) (by simp) ?_; (case hd => rfl); (case hg => rfl); (case hr => first | (go_simp; done) | (go_simp; rfl)); (case hp => exact (Reps.none _ _))
     intro v163 w9 ho10 hb hg_ hnew_
     clear hg_ hnew_
     (first | rw [← Ny162.out] at ho10 | (simp only [Int.reduceToNat] at ho10; rw [← Ny162.out] at ho10))
     replace HO170 := rB HO170 hb
     replace HO164 := ak (Kd.R_lower ho10 (below_size (lT HB (gC GE160 (gC GE161 gN)))))
     replace BK160 := bB BK160 hb
     replace BK161 := bB BK161 hb
     replace HB := ak (below_step (lT HB (gC GE160 (gC GE161 gN))) hb)
     clear hb ho10
     refine hK.out _ _ ⟨bc BK160 0, bc BK160 1⟩ (fun hHeld => ?_)
     clear hK K
     refine nm ?_
     refine on 3 (some 6) (fb 10 127) HT_ (fun K hK => ?_)
     refine Kd.R_append_rows_step Kd.string (w0 := w) w.heap.size (by rfl) (.tmp 3) (.tmp 5) 24 9 (.string ⟨#[]⟩) 16 rfl Try.underlying24 info9 rfl (by decide) (by omega) v163 y162 l0_0 _ _ _ (fun _ => True) (fun _ => False) rfl rfl ?aO ?aR (fun _ _ h => h) (fun _ h => h.elim) ?aF ?aB ?aS ?aL ?_
     (case aR => exact cG (Kd.C_below HR0_0.out HB.out))
     (case aB => exact (lT HB (gC GE160 (gC GE161 gN))))
     (case aF => exact (fun _ _ => trivial))
     (case aO => exact (rG HO164))
     (case aS => exact (below_size (lT HB (gC GE160 (gC GE161 gN)))))
     (case aL => have := LMc2.out; omega)
     intro v166 w11 ho hb hg hat
     rw [← Ny165.out] at ho
     have n0_ := ak (blk_grown (g := gb160) (o := .cells #[.slice A0_0 l0_0.length c0_0, .slice A0_1 l0_1.length c0_1] 27 (0, 0)) (bG BK160) hg (Kd.R_ne HO164.out BK160.out (by decide)))
     have n1_ := ak (blk_grown (g := gb161) (o := .cells #[.slice none 0 0, .slice none 0 0] 27 (0, 0)) (bG BK161) hg (Kd.R_ne HO164.out BK161.out (by decide)))
     have n2_ := ak (Kd.R_over' (rG HO170) (Kd.R_typed (rG HO164)) (by decide) hg)
     have n3_ := ak (hb)
     have n4_ := ak (ho)
     clear BK160
     clear BK161
     clear HO170
     clear HB
     clear HO164
     have BK160 := n0_
     have BK161 := n1_
     have HO170 := n2_
     have HB := n3_
     have HO167 := n4_
     clear n0_ n1_ n2_ n3_ n4_
     clear ho hb hg hat
     refine hK.out _ _ ⟨bc BK160 0, bc BK160 1⟩ (fun hHeld => ?_)
     clear hK K
     refine nm ?_
     exact norm_ (by simp only [putAll, Act.put, List.setIfInBounds_toArray, List.set_cons_zero, List.set_cons_succ]) (hCont (v163, v166, v169) _ ⟨hHeld, (rG HO167), (rG HO170), (bG BK160), (bG BK161), (lT HB (gC GE160 (gC GE161 gN)))⟩)
   rintro ⟨v163, v166, v169⟩ w12 ⟨hS_, h0_, h1_, h2_, h3_, h4_⟩
   have n0_ : Aside0 (Kd.R Kd.string 9 w12 w.heap.size (fun _ => True) v166 y165) := ⟨h0_⟩
   have n1_ : Aside0 (Kd.R k63 63 w12 w.heap.size (fun _ => True) v169 y168) := ⟨h1_⟩
   have n2_ : Aside0 (w12.heap[gb160]? = some (.cells #[.slice A0_0 l0_0.length c0_0, .slice A0_1 l0_1.length c0_1] 27 (0, 0))) := ⟨h2_⟩
   have n3_ : Aside0 (w12.heap[gb161]? = some (.cells #[.slice none 0 0, .slice none 0 0] 27 (0, 0))) := ⟨h3_⟩
   have n4_ : Aside0 (Below w.heap.size w w12) := ⟨h4_⟩
   clear BK160
   clear BK161
   clear HB
   clear h0_ h1_ h2_ h3_ h4_
   have HO167 := n0_
   have HO170 := n1_
   have BK160 := n2_
   have BK161 := n3_
   have HB := n4_
   clear n0_ n1_ n2_ n3_ n4_
   have hHeld : w12.cell? ⟨gb160, 0, none⟩ = some (.slice A0_0 l0_0.length c0_0) ∧ w12.cell? ⟨gb160, 1, none⟩ = some (.slice A0_1 l0_1.length c0_1) := hS_
   refine norm_ (a' := ?_) ?_ ?_
   rotate_left
   ·simp only [putAll, Act.put, List.setIfInBounds_toArray, List.set_cons_zero, List.set_cons_succ]
    rfl
   refine on 7 (some 10) (fb 10 255) HT_ (fun K hK => ?_)
   refine Kd.R_append_rows_step k63 (w0 := w) w.heap.size (by rfl) (.tmp 7) (.tmp 9) 25 63 (.agg #[(.int .i64 0), (.string ⟨#[]⟩)]) 24 rfl Try.underlying25 info63 rfl (by decide) (by omega) v169 y168 l0_1 _ _ _ (fun _ => True) (fun _ => False) rfl rfl ?aO ?aR (fun _ _ h => h) (fun _ h => h.elim) ?aF ?aB ?aS ?aL ?_
   (case aR => exact cG (Kd.C_below HR0_1.out HB.out))
   (case aB => exact (lT HB (gC GE160 (gC GE161 gN))))
   (case aF => exact (fun _ _ => trivial))
   (case aO => exact (rG HO170))
   (case aS => exact (below_size (lT HB (gC GE160 (gC GE161 gN)))))
   (case aL => have := LMc3.out; omega)
   intro v172 w13 ho hb hg hat
   rw [← Ny171.out] at ho
   have n0_ := ak (blk_grown (g := gb160) (o := .cells #[.slice A0_0 l0_0.length c0_0, .slice A0_1 l0_1.length c0_1] 27 (0, 0)) (bG BK160) hg (Kd.R_ne HO170.out BK160.out (by decide)))
   have n1_ := ak (blk_grown (g := gb161) (o := .cells #[.slice none 0 0, .slice none 0 0] 27 (0, 0)) (bG BK161) hg (Kd.R_ne HO170.out BK161.out (by decide)))
   have n2_ := ak (Kd.R_over' (rG HO167) (Kd.R_typed (rG HO170)) (by decide) hg)
   have n3_ := ak (hb)
   have n4_ := ak (ho)
   clear BK160
   clear BK161
   clear HO167
   clear HB
   clear HO170
   have BK160 := n0_
   have BK161 := n1_
   have HO167 := n2_
   have HB := n3_
   have HO173 := n4_
   clear n0_ n1_ n2_ n3_ n4_
   clear ho hb hg hat
   obtain ⟨Ao14, co14, eo14⟩ := Kd.R_slice HO173.out
   (first | subst eo14 | (injection eo14 with f1_ f2_ f3_; have f4_ := f1_.symm; have f5_ := f3_.symm; clear f1_ f2_ f3_; subst f4_; subst f5_))
   obtain ⟨Ao15, co15, eo15⟩ := Kd.R_slice HO167.out
   (first | subst eo15 | (injection eo15 with f1_ f2_ f3_; have f4_ := f1_.symm; have f5_ := f3_.symm; clear f1_ f2_ f3_; subst f4_; subst f5_))
   refine hK.out _ _ ⟨bc BK160 0, bc BK160 1⟩ (fun hHeld => ?_)
   clear hK K
   refine nm ?_
   refine pu 8 11 (fb 10 511) HT_ ?_
   refine on 9 none (fb 10 1023) HT_ (fun K hK => ?_)
   have hs16 : w13.cell? ⟨gb161, 0, none⟩ = some (.slice none 0 0) := bc BK161 0
   have hfs16 := blk_frozen BK161.out 0
   have hns16_0 := NB160_161.out
   have hms16_0 := NB161_160.out
   have hs17 : w13.cell? ⟨gb161, 1, none⟩ = some (.slice none 0 0) := bc BK161 1
   have hfs17 := blk_frozen BK161.out 1
   have hns17_0 := NB160_161.out
   have hms17_0 := NB161_160.out
   refine skip_ (w1 := ?_) (by rfl) rfl ?_ ?_
   rotate_left
   ·go_simp
    rfl
   refine hK.out _ _ ⟨((cell_far (p := ⟨gb161, _, none⟩) NB160_161.out _).trans (((cell_far (p := ⟨gb161, _, none⟩) NB160_161.out _).trans (hHeld.1)))), ((cell_far (p := ⟨gb161, _, none⟩) NB160_161.out _).trans (((cell_far (p := ⟨gb161, _, none⟩) NB160_161.out _).trans (hHeld.2))))⟩ (fun hHeld => ?_)
   clear hK K
   refine done_ (done_of HT_.out (by kernel_rfl)) ?_
   try go_wp2
   refine bodyPost_ret (results_cell_row rfl _ _ gb161 27 #[.slice Ao15 y165.length co15, .slice Ao14 y171.length co14] (0, 0) _ rfl (bW BK161) Try.underlying27 rfl (by kernel_rfl)) rfl ?_
   exact ⟨_, _, ew, by exact Kd.R_mono (rT HO167 BK161 (by decide)) (fun _ hk => trivial), by exact Kd.R_mono (rT HO173 BK161 (by decide)) (fun _ hk => trivial), by exact lT HB (gC GE160 (gC GE161 gN))⟩
  ·rw [if_neg c3] at H
   exact absurd H (by simp)
 ·rw [if_neg c2] at H
  exact absurd H (by simp)

/-! ### spec_FlushDisk: function 36 -/
def spec_FlushDisk.l0 : Nat → Int → List ByteArray → List (S63) → List ByteArray → List (S63) → Option (List ByteArray × (List (S63)))
 | 0, _, _, _, _, _ => none
 | k + 1, x4, x175000, x175001, x183000, x183001 => if x4 < (x175001.length : Int) then (if 0 ≤ x4 then (if 0 ≤ ((rd_T63 x175001 x4).f0) then (if ((rd_T63 x175001 x4).f0) < (x183000.length : Int) then (spec_FlushDisk.l0 k (wrap64 (x4 + 1)) x175000 x175001 (x183000.set (((rd_T63 x175001 x4).f0) : Int).toNat ((rd_T63 x175001 x4).f1)) x183001) else (none)) else (none)) else (none)) else (some (x183000, (([] : List (S63)))))
def spec_FlushDisk.f (k : Nat) (l0_0 : List ByteArray) (l0_1 : List (S63)) : Option (List ByteArray × (List (S63))) := (spec_l03Copy.f l0_0 l0_1).bind fun bt176 => ((spec_DiskOk.f k l0_0 l0_1).bind fun t183 => (if t183 = true then (spec_FlushDisk.l0 k 0 l0_0 l0_1 bt176.1 bt176.2) else (some (bt176.1, bt176.2))))
theorem spec_FlushDisk.mono_l : ∀ k, (∀ y0 y1 y2 y3 y4, LeO (spec_FlushDisk.l0 k y0 y1 y2 y3 y4) (spec_FlushDisk.l0 (k + 1) y0 y1 y2 y3 y4))
 | 0 => fun _ _ _ _ _ r h => by simp [spec_FlushDisk.l0] at h
 | k + 1 => by
  have ih0 := spec_FlushDisk.mono_l k
  ·intro y0 y1 y2 y3 y4
   unfold spec_FlushDisk.l0
   repeat' first
   | (with_reducible exact ih0 _ _ _ _ _)
   | (with_reducible exact spec_DiskOk.mono _ _ _)
   | (with_reducible exact LeO.refl _)
   | (with_reducible exact LeO.none _)
   | (with_reducible refine LeO.ite ?_ ?_)
   | (with_reducible refine LeO.bind ?_ (fun _ => ?_))
   | exact ih0 _ _ _ _ _
   | exact spec_DiskOk.mono _ _ _
   | exact LeO.none _
   | refine LeO.ite ?_ ?_
   | refine LeO.bind ?_ (fun _ => ?_)
theorem spec_FlushDisk.mono : ∀ a0 a1 k, LeO (spec_FlushDisk.f k a0 a1) (spec_FlushDisk.f (k + 1) a0 a1) := by
 intro a0 a1 k
 have ih0 := spec_FlushDisk.mono_l k
 unfold spec_FlushDisk.f
 repeat' first
   | (with_reducible exact ih0 _ _ _ _ _)
   | (with_reducible exact spec_DiskOk.mono _ _ _)
   | (with_reducible exact LeO.refl _)
   | (with_reducible exact LeO.none _)
   | (with_reducible refine LeO.ite ?_ ?_)
   | (with_reducible refine LeO.bind ?_ (fun _ => ?_))
   | exact ih0 _ _ _ _ _
   | exact spec_DiskOk.mono _ _ _
   | exact LeO.none _
   | refine LeO.ite ?_ ?_
   | refine LeO.bind ?_ (fun _ => ?_)
def spec_FlushDisk.T7 : Bool × List (List Nat × List Nat) := (true, [([], []), ([0], [0]), ([], []), ([2], [2]), ([], []), ([3, 4], [3, 4]), ([5], [5]), ([6], [6]), ([], []), ([8], [8]), ([], []), ([9, 10], [9, 10]), ([11], [11]), ([12], [12]), ([1, 7, 0, 1, 2, 3, 4, 5, 6, 7, 8, 9, 10, 11, 12, 13], [1, 7]), ([14, 13, 0, 1, 2, 3, 4, 5, 6, 7, 8, 9, 10, 11, 12, 13], [13, 14])])
def spec_FlushDisk.B7 : List Nat := [0, 1, 0, 4, 0, 28, 60, 124, 0, 256, 0, 1792, 3840, 7936, 16383, 32767]
theorem spec_FlushDisk.tab7 : rtab .any (opsOf Try.f36 7) = spec_FlushDisk.T7 := by kernel_rfl
theorem spec_FlushDisk.bits7 : waitsOk spec_FlushDisk.T7.2 spec_FlushDisk.B7 = true := by kernel_rfl
set_option maxHeartbeats 8000000 in
set_option maxRecDepth 100000 in
theorem spec_FlushDisk.calls (k : Nat) (A0_0 : Option Addr) (c0_0 : Nat) (l0_0 : List ByteArray) (A0_1 : Option Addr) (c0_1 : Nat) (l0_1 : List (S63)) (r1 : List ByteArray) (r2 : List (S63)) (w : World) (hr0_0 : Kd.C Kd.string w A0_0 l0_0.length l0_0) (hc0_0 : l0_0.length ≤ c0_0) (hr0_1 : Kd.C k63 w A0_1 l0_1.length l0_1) (hc0_1 : l0_1.length ≤ c0_1) (h : spec_FlushDisk.f k l0_0 l0_1 = some (r1, r2)) :
  Calls Try.prog 36 #[.agg #[.slice A0_0 l0_0.length c0_0, .slice A0_1 l0_1.length c0_1]] w fun e w' => ∃ v0_ v1_ : Value, e = .returned (.agg #[v0_, v1_]) ∧ Kd.R Kd.string 9 w' w.heap.size (fun _ => True) v0_ r1 ∧ Kd.R k63 63 w' w.heap.size (fun _ => True) v1_ r2 ∧ Below w.heap.size w w' := by
 have hu27 := Try.underlying27
 have HR0_0 := Aside0.mk hr0_0
 have HC0_0 := Aside0.mk hc0_0
 clear hr0_0 hc0_0
 have HR0_1 := Aside0.mk hr0_1
 have HC0_1 := Aside0.mk hc0_1
 clear hr0_1 hc0_1
 have HB := ak (Below.refl w.heap.size w)
 have H : ((spec_l03Copy.f l0_0 l0_1).bind fun bt176 => ((spec_DiskOk.f k l0_0 l0_1).bind fun t183 => (if t183 = true then (spec_FlushDisk.l0 k 0 l0_0 l0_1 bt176.1 bt176.2) else (some (bt176.1, bt176.2))))) = some (r1, r2) := h
 clear h
 replace H := Option.bind_eq_some_iff.mp H
 obtain ⟨⟨t176, t179⟩, A20, H⟩ := H
 replace H : ((spec_DiskOk.f k l0_0 l0_1).bind fun t183 => (if t183 = true then (spec_FlushDisk.l0 k 0 l0_0 l0_1 t176 t179) else (some (t176, t179)))) = some (r1, r2) := H
 have A2 := Aside0.mk A20
 clear A20
 replace H := Option.bind_eq_some_iff.mp H
 obtain ⟨t183, A30, H⟩ := H
 replace H : (if t183 = true then (spec_FlushDisk.l0 k 0 l0_0 l0_1 t176 t179) else (some (t176, t179))) = some (r1, r2) := H
 have A3 := Aside0.mk A30
 clear A30
 by_cases c4 : t183 = true
 ·subst c4
  have H1 : (spec_FlushDisk.l0 k 0 l0_0 l0_1 t176 t179) = some (r1, r2) := by rw [if_pos rfl] at H; exact H
  clear H
  have H := H1
  clear H1
  have H' := Aside0.mk H
  clear H
  go_enter Try.func36, Try.ntmps36
  go_wp2_with (first | ((with_reducible refine gate_dst (N := 1) rfl ?_); refine bx 1 #[.slice A0_0 l0_0.length c0_0, .slice A0_1 l0_1.length c0_1] 27 ?_; intro gb174 hg w5 hbox hb; replace BK174 := ak (hbox); replace GW174 := ak (bz hg (lG HB)); replace GE174 := ak (bz hg (lG HB)); replace HB := lB HB hb; clear hb hbox hg) | ((with_reducible refine gate_dst (N := 2) rfl ?_); refine bx 2 #[.slice none 0 0, .slice none 0 0] 27 ?_; intro gb175 hg w6 hbox hb; replace BK175 := ak (hbox); replace GW175 := ak (bz hg (lT HB (gC GE174 gN))); replace GE175 := ak (bz hg (lT HB (gC GE174 gN))); replace HB := ak (below_step (lT HB (gC GE174 gN)) hb); replace NB174_175 := ak (nl hg (bG BK174)); replace NB175_174 := ak (ng hg (bG BK174)); replace BK174 := bB BK174 hb; clear hb hbox hg; have hnb7 := NB174_175.out; have hnc7 := NB175_174.out; obtain ⟨hcz8_0, hcz8_1, hfz8_0, hfz8_1⟩ := bC2 BK174) | ((with_reducible refine gate_callee (f := 58) rfl ?_); refine gl (some 6) Try.func58 #[.agg #[.slice A0_0 l0_0.length c0_0, .slice A0_1 l0_1.length c0_1]] ?_; (with_reducible refine (spec_l03Copy.calls _ _ l0_0 _ _ l0_1 t176 t179 _ ?side1 ?side2 ?side3 ?side4 A2.out).mono ?_); (case side1 => exact cG (Kd.C_below HR0_0.out HB.out)); (case side2 => exact HC0_0.out); (case side3 => exact cG (Kd.C_below HR0_1.out HB.out)); (case side4 => exact HC0_1.out); rintro e w9 ⟨v177, v180, rfl, ho0, ho1, hb⟩; refine ⟨_, rfl, ?_⟩; replace HO178 := ak (Kd.R_lower ho0 (below_size (lT HB (gC GE174 (gC GE175 gN))))); replace HO181 := ak (Kd.R_lower ho1 (below_size (lT HB (gC GE174 (gC GE175 gN))))); replace BK174 := bB BK174 hb; replace BK175 := bB BK175 hb; replace HB := ak (below_step (lT HB (gC GE174 (gC GE175 gN))) hb); (try clear hb); (try clear hk); (try clear ho0); (try clear ho1)) | ((with_reducible refine gate_dst (N := 3) rfl ?_); refine bx 3 #[.slice none 0 0, .slice none 0 0] 27 ?_; intro gb182 hg w10 hbox hb; replace HO178 := rB HO178 hb; replace HO181 := rB HO181 hb; replace BK182 := ak (hbox); replace GW182 := ak (bz hg (lT HB (gC GE174 (gC GE175 gN)))); replace GE182 := ak (bz hg (lT HB (gC GE174 (gC GE175 gN)))); replace HB := ak (below_step (lT HB (gC GE174 (gC GE175 gN))) hb); replace NB174_182 := ak (nl hg (bG BK174)); replace NB182_174 := ak (ng hg (bG BK174)); replace BK174 := bB BK174 hb; replace NB175_182 := ak (nl hg (bG BK175)); replace NB182_175 := ak (ng hg (bG BK175)); replace BK175 := bB BK175 hb; clear hb hbox hg; obtain ⟨Ao11, co11, eo11⟩ := Kd.R_slice HO178.out; subst eo11; have hnb12 := NB182_174.out; have hnc12 := NB174_182.out; have hnb13 := NB182_175.out; have hnc13 := NB175_182.out; obtain ⟨hcz14_0, hcz14_1, hfz14_0, hfz14_1⟩ := bC2 BK182; obtain ⟨Ao15, co15, eo15⟩ := Kd.R_slice HO181.out; subst eo15; obtain ⟨hcz16_0, hcz16_1, hfz16_0, hfz16_1⟩ := bC2 BK174) | ((with_reducible refine gate_callee (f := 35) rfl ?_); refine gl (some 8) Try.func35 #[.agg #[.slice A0_0 l0_0.length c0_0, .slice A0_1 l0_1.length c0_1]] ?_; (with_reducible refine (spec_DiskOk.calls k _ _ l0_0 _ _ l0_1 true _ ?side1 ?side2 ?side3 ?side4 A3.out).mono ?_); (case side1 => exact Kd.C_below HR0_0.out (lT HB (gC GE174 (gC GE175 (gC GE182 gN))))); (case side2 => exact HC0_0.out); (case side3 => exact Kd.C_below HR0_1.out (lT HB (gC GE174 (gC GE175 (gC GE182 gN))))); (case side4 => exact HC0_1.out); rintro e w17 ⟨rfl, hb⟩; refine ⟨_, rfl, ?_⟩; replace HO178 := ak (Kd.R_below (rT HO178 BK182 (by decide)) hb); replace HO181 := ak (Kd.R_below (rT HO181 BK182 (by decide)) hb); replace BK174 := ak (blk_below (bT BK174 (nC NB174_182 nN)) hb); replace BK175 := ak (blk_below (bT BK175 (nC NB175_182 nN)) hb); replace BK182 := ak (blk_below (g := gb182) (o := .cells #[.slice Ao11 t176.length co11, .slice Ao15 t179.length co15] 27 (0, 0)) (bW BK182) hb); replace HB := ak (below_step (lT HB (gC GE174 (gC GE175 (gC GE182 gN)))) hb); (try clear hb); (try clear hk)))
  go_loopg [4] k (fun kq v4 w' => ∃ (x4_1 : Int) (x183000_1 : List ByteArray) (u183000 : Value), v4 = .int .i64 x4_1 ∧ Aside0 (spec_FlushDisk.l0 kq x4_1 l0_0 l0_1 x183000_1 t179 = some (r1, r2)) ∧ Aside0 (kq ≤ k) ∧ Aside0 (Kd.R Kd.string 9 w' w.heap.size (fun _ => True) u183000 x183000_1) ∧ Aside0 (Kd.R k63 63 w' w.heap.size (fun _ => True) (.slice Ao15 t179.length co15) t179) ∧ Aside0 (w'.heap[gb174]? = some (.cells #[(.slice A0_0 l0_0.length c0_0), (.slice A0_1 l0_1.length c0_1)] 27 (0, 0))) ∧ Aside0 (w'.heap[gb175]? = some (.cells #[(.slice none 0 0), (.slice none 0 0)] 27 (0, 0))) ∧ Aside0 (w'.heap[gb182]? = some (.cells #[u183000, (.slice Ao15 t179.length co15)] 27 (0, 0))) ∧ Aside0 (Below w.heap.size w w'))
  case atStart => exact ⟨(0), (t176), (.slice Ao11 t176.length co11), (by first | rfl | (simp; done) | (simp [*]; done)), H', ⟨Nat.le_refl _⟩, ⟨by (with_reducible repeat (first | apply Kd.R_alloc | apply Kd.R_drewN | apply Kd.R_drew)); exact HO178.out⟩, ⟨by (with_reducible repeat (first | apply Kd.R_alloc | apply Kd.R_drewN | apply Kd.R_drew)); exact HO181.out⟩, ⟨bG BK174⟩, ⟨bG BK175⟩, ⟨bG BK182⟩, ⟨by exact lT HB (gC GE174 (gC GE175 (gC GE182 gN)))⟩⟩
  case round =>
   clear H'
   try clear c1
   try clear p2
   try clear c3
   try clear c4
   try clear c5
   try clear c7
   try clear c12
   try clear c13
   try clear hcz14_0
   try clear hcz14_1
   try clear hcz16_0
   try clear hcz16_1
   try clear hcz8_0
   try clear hcz8_1
   try clear hfz14_0
   try clear hfz14_1
   try clear hfz16_0
   try clear hfz16_1
   try clear hfz8_0
   try clear hfz8_1
   obtain ⟨x4_1, x183000_1, u183000, rfl, HA, HK1, HO_183000, HO_183001, BK174, BK175, BK182, HB⟩ := hrel
   cases gk with
   | zero => exact absurd HA.out (by simp [spec_FlushDisk.l0])
   | succ k1 =>
    have H := HA.out
    clear HA
    simp only [spec_FlushDisk.l0] at H
    by_cases c18 : x4_1 < (l0_1.length : Int)
    ·rw [if_pos c18] at H
     have c18b0 : decide (x4_1 < (l0_1.length : Int)) = true := decide_eq_true c18
     clear c18
     by_cases c19 : 0 ≤ x4_1
     ·rw [if_pos c19] at H
      have c19b0 : decide (0 ≤ x4_1) = true := decide_eq_true c19
      clear c19
      by_cases c20 : 0 ≤ ((rd_T63 l0_1 x4_1).f0)
      ·rw [if_pos c20] at H
       have c20b0 : decide (0 ≤ ((rd_T63 l0_1 x4_1).f0)) = true := decide_eq_true c20
       clear c20
       by_cases c21 : ((rd_T63 l0_1 x4_1).f0) < (x183000_1.length : Int)
       ·rw [if_pos c21] at H
        have c21b0 : decide (((rd_T63 l0_1 x4_1).f0) < (x183000_1.length : Int)) = true := decide_eq_true c21
        clear c21
        obtain ⟨y186, hy186⟩ : ∃ y_ : List ByteArray, y_ = (x183000_1.set (((rd_T63 l0_1 x4_1).f0) : Int).toNat ((rd_T63 l0_1 x4_1).f1)) := ⟨_, rfl⟩
        replace H : (spec_FlushDisk.l0 k1 (wrap64 (x4_1 + 1)) l0_0 l0_1 y186 t179) = some (r1, r2) := by first | (rw [hy186]; with_reducible exact H) | (have H2_ := (Option.bind_some _ _).symm.trans H; rw [hy186]; with_reducible exact H2_) | (have H2_ := (Option.bind_some _ _).symm.trans H; with_reducible exact H2_) | with_reducible exact H | (rw [hy186]; exact H) | exact H
        have Ny186 := Aside0.mk hy186
        clear hy186
        have H' := Aside0.mk H
        clear H
        have hnb23 := NB174_175.out
        have hnc23 := NB175_174.out
        have hnb24 := NB174_182.out
        have hnc24 := NB182_174.out
        have hcz25_0 : wr.cell? ⟨gb174, 0, none⟩ = some (.slice A0_0 l0_0.length c0_0) := bc BK174 0
        have hcz25_1 : wr.cell? ⟨gb174, 1, none⟩ = some (.slice A0_1 l0_1.length c0_1) := bc BK174 1
        have hfz25_0 := blk_frozen BK174.out 0
        have hfz25_1 := blk_frozen BK174.out 1
        try go_wp2
        replace HO_183000 := ak (Kd.R_drew HO_183000.out)
        replace HO_183001 := ak (Kd.R_drew HO_183001.out)
        replace BK174 := ak (blk_drew BK174.out)
        replace BK175 := ak (blk_drew BK175.out)
        replace BK182 := ak (blk_drew BK182.out)
        replace HB := ak (below_drew1 HB.out)
        have p184 : 0 ≤ (x4_1 : Int) := of_decide_eq_true (by first | (with_reducible assumption) | assumption)
        have q184 : x4_1 < (l0_1.length : Int) := of_decide_eq_true (by first | (with_reducible assumption) | assumption)
        obtain ⟨ad184, e184, hx184_0, hx184_1⟩ := at_T63 HR0_1.out x4_1 p184 q184
        have hw184_1 := hx184_1
        have hw184_0 := hx184_0
        cases e184
        replace hx184_0 := (HB.out.cell (World.block_lt_of_cell? w _ hx184_0)).trans hx184_0
        replace hx184_1 := (HB.out.cell (World.block_lt_of_cell? w _ hx184_1)).trans hx184_1
        replace p184 := eq_true p184
        replace q184 := eq_true q184
        have p185 : 0 ≤ (x4_1 : Int) := of_decide_eq_true (by first | (with_reducible assumption) | assumption)
        have q185 : x4_1 < (l0_1.length : Int) := of_decide_eq_true (by first | (with_reducible assumption) | assumption)
        obtain ⟨ad185, e185, hx185_0, hx185_1⟩ := at_T63 HR0_1.out x4_1 p185 q185
        have hw185_1 := hx185_1
        have hw185_0 := hx185_0
        obtain rfl : ad184 = ad185 := (by injection e185)
        replace hx185_0 := (HB.out.cell (World.block_lt_of_cell? w _ hx185_0)).trans hx185_0
        replace hx185_1 := (HB.out.cell (World.block_lt_of_cell? w _ hx185_1)).trans hx185_1
        replace p185 := eq_true p185
        replace q185 := eq_true q185
        have p22 : 0 ≤ (((rd_T63 l0_1 x4_1).f0) : Int) := of_decide_eq_true (by first | (with_reducible assumption) | assumption)
        have q22 : (((rd_T63 l0_1 x4_1).f0) : Int) < ((x183000_1.length : Int) : Int) := of_decide_eq_true (by first | (with_reducible assumption) | assumption)
        obtain ⟨go22, co22, eo22, gb22, gl22, cl22, HG22⟩ := Kd.R_form HO_183000.out (by omega)
        (first | cases eo22 | (injection eo22 with ea_ en_ ec_; (first | subst ea_ | (injection ea_ with ea_; subst ea_)); subst ec_; clear en_))
        have GB22 := Aside0.mk gb22
        have GG22 := Aside0.mk HG22
        clear gb22 gl22 HG22
        obtain ⟨hx22_0, hf22_0⟩ := Kd.R_celln (⟨#[]⟩ : ByteArray) HO_183000.out (((rd_T63 l0_1 x4_1).f0) : Int) p22 q22
        replace p22 := eq_true p22
        replace q22 := eq_true q22
        have HP27 := Kd.R_putn HO_183000.out (((rd_T63 l0_1 x4_1).f0) : Int) ((rd_T63 l0_1 x4_1).f1)
        rw [← Ny186.out] at HP27
        have HQ27 := Aside0.mk HP27
        clear HP27
        refine start_ (n := 16) (S := fun w' => w'.cell? ⟨gb182, 0, none⟩ = some (.slice (some ⟨go22, 0, none⟩) x183000_1.length co22) ∧ w'.cell? ⟨gb182, 1, none⟩ = some (.slice Ao15 t179.length co15) ∧ w'.cell? ⟨gb174, 0, none⟩ = some (.slice A0_0 l0_0.length c0_0) ∧ w'.cell? ⟨gb174, 1, none⟩ = some (.slice (some ad184) l0_1.length c0_1) ∧ w'.cell? (ad184.add ((x4_1).toNat * 2)) = some (.int .i64 ((rd_T63 l0_1 x4_1).f0)) ∧ w'.cell? ⟨(ad184.add ((x4_1).toNat * 2)).block, (ad184.add ((x4_1).toNat * 2)).off + 1, none⟩ = some (.string ((rd_T63 l0_1 x4_1).f1)) ∧ w'.cell? (ad184.add ((x4_1).toNat * 2)) = some (.int .i64 ((rd_T63 l0_1 x4_1).f0)) ∧ w'.cell? ⟨(ad184.add ((x4_1).toNat * 2)).block, (ad184.add ((x4_1).toNat * 2)).off + 1, none⟩ = some (.string ((rd_T63 l0_1 x4_1).f1))) (ds := [15]) #[f_,f_,f_,f_,f_,f_,f_,f_,f_,f_,f_,f_,f_,f_,f_,f_] (by kernel_rfl) rfl rfl ⟨bc BK182 0, bc BK182 1, bc BK174 0, bc BK174 1, ((HB.out.cell (World.block_lt_of_cell? w _ hw184_0)).trans hw184_0), ((HB.out.cell (World.block_lt_of_cell? w _ hw184_1)).trans hw184_1), ((HB.out.cell (World.block_lt_of_cell? w _ hw185_0)).trans hw185_0), ((HB.out.cell (World.block_lt_of_cell? w _ hw185_1)).trans hw185_1)⟩ (fun hHeld => ?_); refine with_tabW spec_FlushDisk.tab7 spec_FlushDisk.bits7 (fun HT_ HW_ => ?_)
        generalize wr.drew = w26 at HO_183000 HO_183001 BK174 BK175 BK182 HB GG22 HQ27 hf22_0 hx184_0 hx184_1 hx185_0 hx185_1 hx22_0 hHeld ⊢
        refine pu 0 18 (fb 16 1) HT_ ?_
        refine pu 2 20 (fb 16 5) HT_ ?_
        refine pu 4 22 (fb 16 21) HT_ ?_
        refine pu 8 26 (fb 16 277) HT_ ?_
        refine pu 10 28 (fb 16 1301) HT_ ?_
        refine tk 1 19 (fb 16 1303) HT_ HW_ hHeld ?_
        refine tk 3 21 (fb 16 1311) HT_ HW_ hHeld ?_
        refine pu 5 23 (fb 16 1343) HT_ ?_
        refine pu 6 24 (fb 16 1407) HT_ ?_
        refine tk 7 25 (fb 16 1535) HT_ HW_ hHeld ?_
        refine tk 9 27 (fb 16 2047) HT_ HW_ hHeld ?_
        refine pu 11 29 (fb 16 4095) HT_ ?_
        refine pu 12 30 (fb 16 8191) HT_ ?_
        refine tk 13 31 (fb 16 16383) HT_ HW_ hHeld ?_
        refine pu 14 32 (fb 16 32767) HT_ ?_
        refine last_ (i := 15) (N := none) #[t_,t_,t_,t_,t_,t_,t_,t_,t_,t_,t_,t_,t_,t_,t_,t_] rfl rfl (one_of HT_.out (by kernel_rfl)) (by decide) (fun K hK => ?_)
        refine skip_ (w1 := ?_) (by rfl) rfl ?_ ?_
        rotate_left
        ·go_simp
         rfl
        refine hK.out _ _ ?_
        clear hK K
        refine done_ (done_of HT_.out (by kernel_rfl)) ?_
        try go_wp2
        go_roundg k1
        case measure => have := HK1.out; omega
        case rel => exact ⟨(wrap64 (x4_1 + 1)), (y186), (.slice (some ⟨go22, 0, none⟩) x183000_1.length co22), (by first | rfl | (simp; done) | (simp [*]; done)), H', ⟨by have := HK1.out; omega⟩, ⟨by (with_reducible repeat (first | apply Kd.R_alloc | apply Kd.R_drewN | apply Kd.R_drew)); exact HQ27.out⟩, ⟨by (with_reducible repeat (first | apply Kd.R_alloc | apply Kd.R_drewN | apply Kd.R_drew)); exact Kd.R_mono (Kd.R_far (p := ⟨go22, (((rd_T63 l0_1 x4_1).f0) : Int).toNat, none⟩) (Kd.R_types HO_183001.out GG22.out (by decide)) (fun _ hk => hk.2) (.string ((rd_T63 l0_1 x4_1).f1))) (fun _ hk => trivial)⟩, ⟨by (with_reducible repeat (first | refine blk_drewN ?_ _ | refine blk_drew ?_ | refine blk_alloc ?_ _)); refine blk_far ?_ (by have h_ := Kd.R_ne HO_183000.out BK174.out (by decide); intro e_; exact h_ (by rw [e_]; rfl)) _; (with_reducible repeat (first | refine blk_drewN ?_ _ | refine blk_drew ?_ | refine blk_alloc ?_ _)); exact BK174.out⟩, ⟨by (with_reducible repeat (first | refine blk_drewN ?_ _ | refine blk_drew ?_ | refine blk_alloc ?_ _)); refine blk_far ?_ (by have h_ := Kd.R_ne HO_183000.out BK175.out (by decide); intro e_; exact h_ (by rw [e_]; rfl)) _; (with_reducible repeat (first | refine blk_drewN ?_ _ | refine blk_drew ?_ | refine blk_alloc ?_ _)); exact BK175.out⟩, ⟨by (with_reducible repeat (first | refine blk_drewN ?_ _ | refine blk_drew ?_ | refine blk_alloc ?_ _)); refine blk_far ?_ (by have h_ := Kd.R_ne HO_183000.out BK182.out (by decide); intro e_; exact h_ (by rw [e_]; rfl)) _; (with_reducible repeat (first | refine blk_drewN ?_ _ | refine blk_drew ?_ | refine blk_alloc ?_ _)); exact BK182.out⟩, ⟨by repeat (first | (with_reducible first | exact HB.out | apply below_alloc | apply pw_below_drewN | apply below_drew1 | refine below_set ?_ GB22.out | refine below_set ?_ GE174.out | refine below_set ?_ GE175.out | refine below_set ?_ GE182.out) | exact HB.out)⟩⟩
       ·rw [if_neg c21] at H
        exact absurd H (by simp)
      ·rw [if_neg c20] at H
       exact absurd H (by simp)
     ·rw [if_neg c19] at H
      exact absurd H (by simp)
    ·rw [if_neg c18] at H
     have c18b0 : decide (x4_1 < (l0_1.length : Int)) = false := decide_eq_false c18
     clear c18
     obtain ⟨y187, hy187⟩ : ∃ y_ : List (S63), y_ = (([] : List (S63))) := ⟨_, rfl⟩
     replace H : (some (x183000_1, y187)) = some (r1, r2) := by first | (rw [hy187]; with_reducible exact H) | (have H2_ := (Option.bind_some _ _).symm.trans H; rw [hy187]; with_reducible exact H2_) | (have H2_ := (Option.bind_some _ _).symm.trans H; with_reducible exact H2_) | with_reducible exact H | (rw [hy187]; exact H) | exact H
     have Ny187 := Aside0.mk hy187
     clear hy187
     simp only [Option.some.injEq, Prod.mk.injEq] at H
     obtain ⟨rfl, rfl⟩ := H
     have hnb28 := NB174_175.out
     have hnc28 := NB175_174.out
     have hnb29 := NB174_182.out
     have hnc29 := NB182_174.out
     have hcz30_0 : wr.cell? ⟨gb174, 0, none⟩ = some (.slice A0_0 l0_0.length c0_0) := bc BK174 0
     have hcz30_1 : wr.cell? ⟨gb174, 1, none⟩ = some (.slice A0_1 l0_1.length c0_1) := bc BK174 1
     have hfz30_0 := blk_frozen BK174.out 0
     have hfz30_1 := blk_frozen BK174.out 1
     go_wp2_with (first | ((with_reducible refine gate_dst (N := 33) rfl ?_); refine Kd.R_lit k63 _ 63 ?hg (N := 33) ?hd (xs := ([] : List (S63))) (inner := []) (ok := fun _ => True) (okp := fun _ => True) ?hr ?hp (fun _ hk => hk) trivial (Below.refl _ _) (Nat.le_refl _) (by simp) ?_; (case hd => rfl); (case hg => rfl); (case hr => first | (go_simp; done) | (go_simp; rfl)); (case hp => exact (Reps.none _ _)); intro v188 w31 ho32 hb hg_ hnew_; clear hg_ hnew_; (first | rw [← Ny187.out] at ho32 | (simp only [Int.reduceToNat] at ho32; rw [← Ny187.out] at ho32)); replace HO_183000 := rB HO_183000 hb; replace HO189 := ak (Kd.R_lower (Kd.R_new' ho32 (Kd.R_lt (rG HO_183001))) (below_size (lT HB (gC GE174 (gC GE175 (gC GE182 gN)))))); replace HO_183001 := ak (Kd.R_elder' (rG HO_183001) (Kd.R_base ho32) hb); replace BK174 := bB BK174 hb; replace BK175 := bB BK175 hb; replace BK182 := bB BK182 hb; replace HB := ak (below_step (lT HB (gC GE174 (gC GE175 (gC GE182 gN)))) hb); clear hb ho32; obtain ⟨Ao33, co33, eo33⟩ := Kd.R_slice HO189.out; subst eo33; have hnb34 := NB182_175.out; have hnc34 := NB175_182.out; obtain ⟨hcz35_0, hcz35_1, hfz35_0, hfz35_1⟩ := bC2 BK182; obtain ⟨Ao36, co36, eo36⟩ := Kd.R_slice HO_183000.out; subst eo36; obtain ⟨hcz37_0, hcz37_1, hfz37_0, hfz37_1⟩ := bC2 BK175))
     refine bodyPost_ret (results_cell_row rfl _ _ gb175 27 #[.slice Ao36 x183000_1.length co36, .slice Ao33 y187.length co33] (0, 0) _ rfl (by (with_reducible repeat (first | refine blk_drewN ?_ _ | refine blk_drew ?_ | refine blk_alloc ?_ _)); refine blk_put (cs := #[.slice Ao36 x183000_1.length co36, .slice none 0 0]) ?_ 1 _ rfl; (with_reducible repeat (first | refine blk_drewN ?_ _ | refine blk_drew ?_ | refine blk_alloc ?_ _)); refine blk_put (cs := #[.slice none 0 0, .slice none 0 0]) ?_ 0 _ rfl; (with_reducible repeat (first | refine blk_drewN ?_ _ | refine blk_drew ?_ | refine blk_alloc ?_ _)); refine blk_far ?_ NB175_182.out _; (with_reducible repeat (first | refine blk_drewN ?_ _ | refine blk_drew ?_ | refine blk_alloc ?_ _)); exact BK175.out) Try.underlying27 rfl (by kernel_rfl)) rfl ?_
     exact ⟨_, _, ew, by exact Kd.R_mono (rT2 HO_183000 BK182 BK175 (by decide) (by decide)) (fun _ hk => trivial), by exact Kd.R_mono (rT2 HO189 BK182 BK175 (by decide) (by decide)) (fun _ hk => trivial), by exact lT HB (gC GE174 (gC GE175 (gC GE182 gN)))⟩
 ·replace c4 := Bool.eq_false_iff.mpr c4
  subst c4
  have H1 : (some (t176, t179)) = some (r1, r2) := by rw [if_neg (show ¬ (false = true) by decide)] at H; exact H
  clear H
  have H := H1
  clear H1
  simp only [Option.some.injEq, Prod.mk.injEq] at H
  obtain ⟨rfl, rfl⟩ := H
  go_enter Try.func36, Try.ntmps36
  go_wp2_with (first | ((with_reducible refine gate_dst (N := 1) rfl ?_); refine bx 1 #[.slice A0_0 l0_0.length c0_0, .slice A0_1 l0_1.length c0_1] 27 ?_; intro gb174 hg w38 hbox hb; replace BK174 := ak (hbox); replace GW174 := ak (bz hg (lG HB)); replace GE174 := ak (bz hg (lG HB)); replace HB := lB HB hb; clear hb hbox hg) | ((with_reducible refine gate_dst (N := 2) rfl ?_); refine bx 2 #[.slice none 0 0, .slice none 0 0] 27 ?_; intro gb175 hg w39 hbox hb; replace BK175 := ak (hbox); replace GW175 := ak (bz hg (lT HB (gC GE174 gN))); replace GE175 := ak (bz hg (lT HB (gC GE174 gN))); replace HB := ak (below_step (lT HB (gC GE174 gN)) hb); replace NB174_175 := ak (nl hg (bG BK174)); replace NB175_174 := ak (ng hg (bG BK174)); replace BK174 := bB BK174 hb; clear hb hbox hg; have hnb40 := NB174_175.out; have hnc40 := NB175_174.out; obtain ⟨hcz41_0, hcz41_1, hfz41_0, hfz41_1⟩ := bC2 BK174) | ((with_reducible refine gate_callee (f := 58) rfl ?_); refine gl (some 6) Try.func58 #[.agg #[.slice A0_0 l0_0.length c0_0, .slice A0_1 l0_1.length c0_1]] ?_; (with_reducible refine (spec_l03Copy.calls _ _ l0_0 _ _ l0_1 t176 t179 _ ?side1 ?side2 ?side3 ?side4 A2.out).mono ?_); (case side1 => exact cG (Kd.C_below HR0_0.out HB.out)); (case side2 => exact HC0_0.out); (case side3 => exact cG (Kd.C_below HR0_1.out HB.out)); (case side4 => exact HC0_1.out); rintro e w42 ⟨v177, v180, rfl, ho0, ho1, hb⟩; refine ⟨_, rfl, ?_⟩; replace HO178 := ak (Kd.R_lower ho0 (below_size (lT HB (gC GE174 (gC GE175 gN))))); replace HO181 := ak (Kd.R_lower ho1 (below_size (lT HB (gC GE174 (gC GE175 gN))))); replace BK174 := bB BK174 hb; replace BK175 := bB BK175 hb; replace HB := ak (below_step (lT HB (gC GE174 (gC GE175 gN))) hb); (try clear hb); (try clear hk); (try clear ho0); (try clear ho1)) | ((with_reducible refine gate_dst (N := 3) rfl ?_); refine bx 3 #[.slice none 0 0, .slice none 0 0] 27 ?_; intro gb182 hg w43 hbox hb; replace HO178 := rB HO178 hb; replace HO181 := rB HO181 hb; replace BK182 := ak (hbox); replace GW182 := ak (bz hg (lT HB (gC GE174 (gC GE175 gN)))); replace GE182 := ak (bz hg (lT HB (gC GE174 (gC GE175 gN)))); replace HB := ak (below_step (lT HB (gC GE174 (gC GE175 gN))) hb); replace NB174_182 := ak (nl hg (bG BK174)); replace NB182_174 := ak (ng hg (bG BK174)); replace BK174 := bB BK174 hb; replace NB175_182 := ak (nl hg (bG BK175)); replace NB182_175 := ak (ng hg (bG BK175)); replace BK175 := bB BK175 hb; clear hb hbox hg; obtain ⟨Ao44, co44, eo44⟩ := Kd.R_slice HO178.out; subst eo44; have hnb45 := NB182_174.out; have hnc45 := NB174_182.out; have hnb46 := NB182_175.out; have hnc46 := NB175_182.out; obtain ⟨hcz47_0, hcz47_1, hfz47_0, hfz47_1⟩ := bC2 BK182; obtain ⟨Ao48, co48, eo48⟩ := Kd.R_slice HO181.out; subst eo48; obtain ⟨hcz49_0, hcz49_1, hfz49_0, hfz49_1⟩ := bC2 BK174) | ((with_reducible refine gate_callee (f := 35) rfl ?_); refine gl (some 8) Try.func35 #[.agg #[.slice A0_0 l0_0.length c0_0, .slice A0_1 l0_1.length c0_1]] ?_; (with_reducible refine (spec_DiskOk.calls k _ _ l0_0 _ _ l0_1 false _ ?side1 ?side2 ?side3 ?side4 A3.out).mono ?_); (case side1 => exact Kd.C_below HR0_0.out (lT HB (gC GE174 (gC GE175 (gC GE182 gN))))); (case side2 => exact HC0_0.out); (case side3 => exact Kd.C_below HR0_1.out (lT HB (gC GE174 (gC GE175 (gC GE182 gN))))); (case side4 => exact HC0_1.out); rintro e w50 ⟨rfl, hb⟩; refine ⟨_, rfl, ?_⟩; replace HO178 := ak (Kd.R_below (rT HO178 BK182 (by decide)) hb); replace HO181 := ak (Kd.R_below (rT HO181 BK182 (by decide)) hb); replace BK174 := ak (blk_below (bT BK174 (nC NB174_182 nN)) hb); replace BK175 := ak (blk_below (bT BK175 (nC NB175_182 nN)) hb); replace BK182 := ak (blk_below (g := gb182) (o := .cells #[.slice Ao44 t176.length co44, .slice Ao48 t179.length co48] 27 (0, 0)) (bW BK182) hb); replace HB := ak (below_step (lT HB (gC GE174 (gC GE175 (gC GE182 gN)))) hb); (try clear hb); (try clear hk); obtain ⟨hcz51_0, hcz51_1, hfz51_0, hfz51_1⟩ := bC2 BK182; obtain ⟨hcz52_0, hcz52_1, hfz52_0, hfz52_1⟩ := bC2 BK175))
  refine bodyPost_ret (results_cell_row rfl _ _ gb175 27 #[.slice Ao44 t176.length co44, .slice Ao48 t179.length co48] (0, 0) _ rfl (bW BK175) Try.underlying27 rfl (by kernel_rfl)) rfl ?_
  exact ⟨_, _, ew, by exact Kd.R_mono (rT HO178 BK175 (by decide)) (fun _ hk => trivial), by exact Kd.R_mono (rT HO181 BK175 (by decide)) (fun _ hk => trivial), by exact lT HB (gC GE174 (gC GE175 (gC GE182 gN)))⟩

/-! ### spec_l01Byte: function 46 -/
def spec_l01Byte.f (s0_0 : List Int) (s0_1 : Int) (s0_2 : Int) : Option (Int × Int × Int) := if s0_1 < (s0_0.length : Int) then (if 0 ≤ s0_1 then (some (Go.bits .and .i64 (wrap64 ((Go.bits .and .i64 (Go.bits .xor .i64 ((wrap64 ((wrap64 (s0_2 * 6364136223846793005)) + 1442695040888963407)) / 8589934592) ((wrap64 ((wrap64 (s0_2 * 6364136223846793005)) + 1442695040888963407)) / 35184372088832)) 255) + (wrap64 (rd s0_0 s0_1)))) 255, wrap64 (s0_1 + 1), wrap64 ((wrap64 (s0_2 * 6364136223846793005)) + 1442695040888963407))) else (none)) else (some (Go.bits .and .i64 (Go.bits .xor .i64 ((wrap64 ((wrap64 (s0_2 * 6364136223846793005)) + 1442695040888963407)) / 8589934592) ((wrap64 ((wrap64 (s0_2 * 6364136223846793005)) + 1442695040888963407)) / 35184372088832)) 255, s0_1, wrap64 ((wrap64 (s0_2 * 6364136223846793005)) + 1442695040888963407)))
set_option maxHeartbeats 8000000 in
set_option maxRecDepth 100000 in
theorem spec_l01Byte.calls (g : Nat) (s0_0 : List Int) (s0_1 : Int) (s0_2 : Int) (r1 : Int) (r2 : Int) (r3 : Int) (w0 w : World) (hI : IsS80 w0 w g s0_0 s0_1 s0_2) (hB : Below w0.heap.size w0 w) (h : spec_l01Byte.f s0_0 s0_1 s0_2 = some (r1, r2, r3)) :
  Calls Try.prog 46 #[.pointer (some ⟨g, 0, none⟩)] w fun e w' => e = .returned (.int .i64 r1) ∧ IsS80 w0 w' g s0_0 r2 r3 ∧ Below w0.heap.size w0 w' ∧ KeepBut w w' g none := by
 have HI0 := Aside0.mk hI
 have HK := ak (KeepBut.refl w g none)
 have HL := Aside0.mk hB.size
 clear hI
 have HW0 := Aside0.mk hB.size
 have HB := Aside0.mk hB
 clear hB
 have H : (if s0_1 < (s0_0.length : Int) then (if 0 ≤ s0_1 then (some (Go.bits .and .i64 (wrap64 ((Go.bits .and .i64 (Go.bits .xor .i64 ((wrap64 ((wrap64 (s0_2 * 6364136223846793005)) + 1442695040888963407)) / 8589934592) ((wrap64 ((wrap64 (s0_2 * 6364136223846793005)) + 1442695040888963407)) / 35184372088832)) 255) + (wrap64 (rd s0_0 s0_1)))) 255, wrap64 (s0_1 + 1), wrap64 ((wrap64 (s0_2 * 6364136223846793005)) + 1442695040888963407))) else (none)) else (some (Go.bits .and .i64 (Go.bits .xor .i64 ((wrap64 ((wrap64 (s0_2 * 6364136223846793005)) + 1442695040888963407)) / 8589934592) ((wrap64 ((wrap64 (s0_2 * 6364136223846793005)) + 1442695040888963407)) / 35184372088832)) 255, s0_1, wrap64 ((wrap64 (s0_2 * 6364136223846793005)) + 1442695040888963407)))) = some (r1, r2, r3) := h
 clear h
 by_cases c2 : s0_1 < (s0_0.length : Int)
 ·rw [if_pos c2] at H
  have c2b0 : decide (s0_1 < (s0_0.length : Int)) = true := decide_eq_true c2
  clear c2
  by_cases c3 : 0 ≤ s0_1
  ·rw [if_pos c3] at H
   have c3b0 : decide (0 ≤ s0_1) = true := decide_eq_true c3
   clear c3
   simp only [Option.some.injEq, Prod.mk.injEq] at H
   obtain ⟨rfl, rfl, rfl⟩ := H
   obtain ⟨ASz4_0, cSz4_0, HGz4, hgz4, HSz4_0⟩ := HI0.out
   have hcz4_0 := cellS80_0 HGz4
   have hcz4_1 := cellS80_1 HGz4
   have hcz4_2 := cellS80_2 HGz4
   have hfz4_1 := blk_frozen HGz4 1
   have hfz4_2 := blk_frozen HGz4 2
   clear HGz4 hgz4
   have p190 : 0 ≤ (s0_1 : Int) := of_decide_eq_true (by first | (with_reducible assumption) | assumption)
   have q190 : s0_1 < (s0_0.length : Int) := of_decide_eq_true (by first | (with_reducible assumption) | assumption)
   obtain ⟨ad190, e190, hx190_0⟩ := Kd.at_int HSz4_0 s0_1 p190 q190
   cases e190
   have hn190_0 : ad190.block ≠ g := Nat.ne_of_lt (Nat.lt_of_lt_of_le (by have := World.block_lt_of_cell? _ _ hx190_0; first | rwa [add_block] at this | exact this) (IsS80.ge HI0.out))
   replace hx190_0 := pw_cell_below HB.out hx190_0
   replace hx190_0 := (cell_far (p := ⟨g, 2, none⟩) (by first | (rw [add_block]; exact hn190_0) | (show (Addr.add _ _).block ≠ _; rw [add_block]; exact hn190_0) | exact hn190_0) (.int .i64 (wrap64 ((wrap64 (s0_2 * 6364136223846793005)) + 1442695040888963407)))).trans hx190_0
   (try have hy190_0 := fun (n_ : Nat) => (show (((w.drewN n_).setCell ⟨g, 2, none⟩ (.int .i64 (wrap64 ((wrap64 (s0_2 * 6364136223846793005)) + 1442695040888963407))))).cell? _ = some _ from hx190_0))
   clear hn190_0
   replace p190 := eq_true p190
   replace q190 := eq_true q190
   go_enter Try.func46, Try.ntmps46
   go_wp2
   repeat (go_quiet (fail); try go_wp2)
   go_ret
   exact ⟨by first | rfl | (simp [errW_none, errW_some] <;> rfl) | (simp [*, errW_none, errW_some] <;> rfl), by repeat (first | (with_reducible first | exact HI0.out | apply IsS80.alloc | apply IsS80.drewN | apply IsS80.drew | apply IsS80.set_1 | apply IsS80.set_2) | exact HI0.out), by repeat (first | (with_reducible first | exact HB.out | apply below_alloc | apply pw_below_drewN | apply below_drew1 | refine below_set ?_ (IsS80.ge HI0.out)) | exact HB.out), by repeat (first | (with_reducible first | exact HK.out | apply KeepBut.set_ | apply keep_drewN | apply keep_drew | apply keep_alloc) | exact HK.out)⟩
  ·rw [if_neg c3] at H
   exact absurd H (by simp)
 ·rw [if_neg c2] at H
  have c2b0 : decide (s0_1 < (s0_0.length : Int)) = false := decide_eq_false c2
  clear c2
  simp only [Option.some.injEq, Prod.mk.injEq] at H
  obtain ⟨rfl, rfl, rfl⟩ := H
  obtain ⟨ASz5_0, cSz5_0, HGz5, hgz5, HSz5_0⟩ := HI0.out
  have hcz5_0 := cellS80_0 HGz5
  have hcz5_1 := cellS80_1 HGz5
  have hcz5_2 := cellS80_2 HGz5
  have hfz5_1 := blk_frozen HGz5 1
  have hfz5_2 := blk_frozen HGz5 2
  clear HGz5 hgz5
  go_enter Try.func46, Try.ntmps46
  go_wp2
  repeat (go_quiet (fail); try go_wp2)
  go_ret
  exact ⟨by first | rfl | (simp [errW_none, errW_some] <;> rfl) | (simp [*, errW_none, errW_some] <;> rfl), by repeat (first | (with_reducible first | exact HI0.out | apply IsS80.alloc | apply IsS80.drewN | apply IsS80.drew | apply IsS80.set_1 | apply IsS80.set_2) | exact HI0.out), by repeat (first | (with_reducible first | exact HB.out | apply below_alloc | apply pw_below_drewN | apply below_drew1 | refine below_set ?_ (IsS80.ge HI0.out)) | exact HB.out), by repeat (first | (with_reducible first | exact HK.out | apply KeepBut.set_ | apply keep_drewN | apply keep_drew | apply keep_alloc) | exact HK.out)⟩

end Go.Proofs.Ytjpngldnkgofaaa.PFnDisksTold
