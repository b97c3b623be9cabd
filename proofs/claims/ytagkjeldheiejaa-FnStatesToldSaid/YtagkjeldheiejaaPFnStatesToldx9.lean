-- printed
import Derived.Test.YtagkjeldheiejaaPFnStatesToldx0
import Derived.Test.YtagkjeldheiejaaVFnStatesTold1
namespace Go.Proofs.Ytagkjeldheiejaa.PFnStatesTold
open Go.RowKit YtagkjeldheiejaaW.PrintWords YtagkjeldheiejaaW.PrintLast YtagkjeldheiejaaW.PrintMore
set_option linter.unusedVariables false
set_option linter.unusedSimpArgs false
attribute [local go_sem] max2_int min2_int max_two min_two max_three min_three max_four min_four
set_option maxHeartbeats 16000000
set_option maxRecDepth 100000
def numL_u (g : S32 → Int × Bool) (l : List S32) : List Int := (l.filter (fun x => (g x).2)).map (fun x => (g x).1)
def numC_u (xs : List Int) : List Int := Lib.compact (xs.mergeSort fun x y => decide (x ≤ y))
theorem numL_take_u (g : S32 → Int × Bool) (l : List S32) (i : Nat) (h : i < l.length) : numL_u g (l.take (i + 1)) = numL_u g (l.take i) ++ (if (g (rd_T32 l (i : Int))).2 then [(g (rd_T32 l (i : Int))).1] else []) := by
 have e : rd_T32 l (i : Int) = l[i] := by
  unfold rd_T32
  rw [Int.toNat_natCast, List.getD_eq_getElem?_getD, List.getElem?_eq_getElem h]
  rfl
 unfold numL_u
 rw [List.take_succ_eq_append_getElem h, List.filter_append, List.map_append, e]
 congr 1
 cases hc : (g l[i]).2 <;> simp [hc]
theorem numL_len_u (g : S32 → Int × Bool) (l : List S32) : (numL_u g l).length ≤ l.length := by
 unfold numL_u
 rw [List.length_map]
 exact List.length_filter_le _ _
theorem num_sort_u (v : Value) (xs : List Int) (w : World) (base : Nat) (hR : Kd.R (Kd.int .i64) 3 w base (fun _ => True) v xs) (hl : xs.length < 4611686018427387904) :
  Calls Try.prog 102 #[v] w fun e w' => e = .returned (.tuple #[]) ∧ Kd.R (Kd.int .i64) 3 w' base (fun _ => True) v (xs.mergeSort fun x y => decide (x ≤ y)) ∧ ∀ w0 : World, w0.heap.size = base → Below base w0 w → Below base w0 w' := by
 have ho := Kd.own_of_R hR
 rcases ho.2 with ⟨rfl, h0⟩ | ⟨g, cap, cur, rfl, hg, hh, hn, hcap, hsz, htk⟩
 {
 obtain rfl : xs = [] := List.eq_nil_of_length_eq_zero h0
 refine (Any.slices_Sort_int_none Try.lays189 none 0 w).mono ?_
 rintro e w' ⟨rfl, rfl⟩
 exact ⟨rfl, by simpa using hR, fun _ _ h => h⟩
 }
 {
 have htk' : cur.toList.take xs.length = xs.map (Value.int .i64) := by simpa [encs] using htk
 refine (Any.slices_Sort_int Try.lays189 g 0 cap xs w (holds_of_blockI hh htk') (blk_lt hh) hl).mono ?_
 rintro e w' ⟨rfl, n, os, rfl⟩
 have hlen : (xs.mergeSort fun x y => decide (x ≤ y)).length = xs.length := List.length_mergeSort _
 refine ⟨rfl, Kd.R_of_own ?_ (fun _ _ => trivial), fun w0 hb0 hB => hB.grown (grownBy_sortedI _) (by have := own_lt ho g rfl; omega) (fun k hk => by injection hk with hk; omega)⟩
 have h2 := ownsRow_sortedI (os := os) (n := n) hlen hg hh hn hcap hsz
 rw [← hlen] at h2
 rw [← hlen]
 simpa [encs] using h2
 }
theorem num_compact_u (v : Value) (xs : List Int) (w : World) (base : Nat) (hR : Kd.R (Kd.int .i64) 3 w base (fun _ => True) v xs) (hl : xs.length ≤ 9223372036854775807) :
  Calls Try.prog 103 #[v] w fun e w' => ∃ v1, e = .returned v1 ∧ Kd.R (Kd.int .i64) 3 w' base (fun _ => True) v1 (Lib.compact xs) ∧ ∀ w0 : World, w0.heap.size = base → Below base w0 w → Below base w0 w' := by
 have ho := Kd.own_of_R hR
 rcases ho.2 with ⟨rfl, h0⟩ | ⟨g, cap, cur, rfl, hg, hh, hn, hcap, hsz, htk⟩
 {
 obtain rfl : xs = [] := List.eq_nil_of_length_eq_zero h0
 refine (Any.slices_Compact_int_empty Try.lays2_20 none 0 w).mono ?_
 rintro e w' ⟨rfl, rfl⟩
 exact ⟨_, rfl, hR, fun _ _ h => h⟩
 }
 {
 have htk' : cur.toList.take xs.length = xs.map (Value.int .i64) := by simpa [encs] using htk
 refine (Any.slices_Compact_int Try.lays2_20 g 0 cap xs w (holds_of_blockI hh htk') hl hn).mono ?_
 rintro e w' ⟨rfl, q, rfl⟩
 have hle : (Lib.compact xs).length ≤ xs.length := Lib.compact_length_le xs
 obtain ⟨ts, hts⟩ : ∃ ts, Lib.compact xs ++ List.replicate (xs.length - (Lib.compact xs).length) 0 = ts := ⟨_, rfl⟩
 have hlen : ts.length = xs.length := by rw [← hts]; simp; omega
 rw [hts]
 have e0 : ∀ W : World, Sort.grow W #[] = W := fun W => by simp [Sort.grow]
 rw [← e0 (Sort.putRow (Value.int .i64) (Sort.ahead w q) g 0 ts.toArray)]
 refine ⟨_, rfl, Kd.R_of_own ?_ (fun _ _ => trivial), fun w0 hb0 hB => hB.grown (grownBy_sortedI _) (by have := own_lt ho g rfl; omega) (fun k hk => by injection hk with hk; omega)⟩
 have h2 := ownsRow_sortedI (os := #[]) (n := q) hlen hg hh hn hcap hsz
 rcases h2.2 with ⟨h3, _⟩ | ⟨g', cap', cur', h3, hg', hh', hn', hcap', hsz', htk2⟩
 {
 cases h3
 }
 {
 injection h3 with h4 h5 h6
 injection h4 with h4
 injection h4 with h4
 subst h4
 subst h6
 refine ⟨by simp [encs], .inr ⟨g, cap, cur', rfl, hg, hh', by omega, hcap, hsz', ?_⟩⟩
 have h7 : (cur'.toList.take (xs.length * 1)).take (Lib.compact xs).length = (ts.map (Value.int .i64)).take (Lib.compact xs).length := by rw [htk2]
 rw [List.take_take, Nat.mul_one, Nat.min_eq_left hle] at h7
 rw [Nat.mul_one, h7, ← hts]
 simp [encs]
 }
 }
theorem numbers_nu (caps : Array Value) (g : S32 → Int × Bool) (A0 : Option Addr) (c0 : Nat) (l0 : List S32) (w : World) (hr0 : Kd.C k32 w A0 l0.length l0) (hc0 : l0.length ≤ c0) (hl0 : l0.length < 17592186044416)
  (hp : ∀ x, x ∈ l0 → ∀ W, Below w.heap.size w W → Calls Try.prog 110 (#[.agg #[.int .i64 x.f1.f0, .int .i64 x.f1.f1, .int .i64 x.f1.f2, .int .i64 x.f1.f3, .int .i64 x.f1.f4, .string x.f1.f5, .string x.f1.f6, .string x.f1.f7]] ++ caps) W fun e W' => e = .returned (.tuple #[.int .i64 (g x).1, .bool (g x).2]) ∧ Below W.heap.size W W') :
  Calls Try.prog 74 #[.slice A0 l0.length c0, .func (.func 110) #[] caps] w fun e w' => ∃ v0_ : Value, e = .returned (v0_) ∧ Kd.R (Kd.int .i64) 3 w' w.heap.size (fun _ => True) v0_ (numC_u (numL_u g l0)) ∧ Below w.heap.size w w' := by
 have hu23 := Try.underlying23
 have hu32 := Try.underlying32
 have hu56 := Try.underlying56
 have HR0 := ak hr0
 have HC0 := ak hc0
 have HP := ak hp
 have hm : l0.length ≤ 9223372036854775807 := hr0.2.1
 have HB := ak (Below.refl w.heap.size w)
 clear hr0 hc0 hp
 go_enter Try.func74, Try.ntmps74
 go_wp2_with (first | ((with_reducible refine gate_dst (N := 10) rfl ?_); refine Kd.R_lit (Kd.int .i64) _ 3 ?hg (N := 10) ?hd (xs := ([] : List Int)) (inner := []) (ok := fun _ => True) (okp := fun _ => True) ?hr ?hp (fun _ hk => hk) trivial (Below.refl _ _) (Nat.le_refl _) (by simp) ?_; (case hd => rfl); (case hg => rfl); (case hr => first | (go_simp; done) | (go_simp; rfl)); (case hp => exact (Reps.none _ _)); intro v443 w3 ho4 hb hg_ hnew_; clear hg_ hnew_; replace HO := ak (Kd.R_lower ho4 (below_size (lG HB))); replace HB := lB HB hb; clear hb ho4))
 go_loopg [5, 13] l0.length (fun kq v5 v13 w' => ∃ (x13 : Int) (i : Nat), v13 = .int .i64 x13 ∧ Aside0 (x13 = (i : Int) ∧ kq + i = l0.length) ∧ Aside0 (Kd.R (Kd.int .i64) 3 w' w.heap.size (fun _ => True) v5 (numL_u g (l0.take i))) ∧ Aside0 (Below w.heap.size w w'))
 case atStart => exact ⟨0, 0, by first | rfl | (simp; done), ⟨rfl, by omega⟩, ⟨rG HO⟩, ⟨lG HB⟩⟩
 case round =>
  skip;{
 clear HB HO
 obtain ⟨x13, i, rfl, HX, HO, HB⟩ := hrel
 cases gk with
 | zero =>
  skip;{
 have c4 : decide (x13 < (l0.length : Int)) = false := decide_eq_false (by have := HX.out; omega)
 have hall : l0.take i = l0 := List.take_of_length_le (by have := HX.out; omega)
 rw [hall] at HO
 have LM := ak (Nat.lt_of_le_of_lt (numL_len_u g l0) hl0)
 go_wp2_with (first | (go_at_call 102; refine (num_sort_u u5 (numL_u g l0) _ w.heap.size (rG HO) (by have := LM.out; omega)).mono ?_; rintro e w10 ⟨rfl, ho, hb⟩; replace HO := ak ho; replace HB := ak (hb w rfl (lG HB)); clear ho hb; skip) | (go_at_call 103; refine (num_compact_u u5 _ _ w.heap.size (rG HO) (by rw [List.length_mergeSort]; have := LM.out; omega)).mono ?_; rintro e w11 ⟨v1, rfl, ho, hb⟩; replace HO := ak ho; replace HB := ak (hb w rfl (lG HB)); clear ho hb; skip))
 go_ret
 exact ⟨_, rfl, rG HO, lG HB⟩
 }
 | succ k1 =>
  skip;{
 have c4 : decide (x13 < (l0.length : Int)) = true := decide_eq_true (by have := HX.out; omega)
 have c5 : decide (0 ≤ x13) = true := decide_eq_true (by have := HX.out; omega)
 have hi : i < l0.length := by have := HX.out; omega
 have hstep := numL_take_u g l0 i hi
 rw [← HX.out.1] at hstep
 have hmem : rd_T32 l0 x13 ∈ l0 := by
  rw [HX.out.1]
  unfold rd_T32
  rw [Int.toNat_natCast, List.getD_eq_getElem?_getD, List.getElem?_eq_getElem hi]
  exact List.getElem_mem hi
 have LM : Aside0 ((numL_u g (l0.take i)).length < 17592186044415) := ⟨by have := numL_len_u g (l0.take i); rw [List.length_take] at this; omega⟩
 have p103 : 0 ≤ (x13 : Int) := by have := HX.out; omega
 have q103 : x13 < (l0.length : Int) := by have := HX.out; omega
 obtain ⟨ad103, e103, hx103_0, hx103_1, hx103_2, hx103_3, hx103_4, hx103_5, hx103_6, hx103_7, hx103_8⟩ := at_T32 HR0.out x13 p103 q103
 cases e103
 replace hx103_0 := clB HB hx103_0
 replace hx103_1 := clB HB hx103_1
 replace hx103_2 := clB HB hx103_2
 replace hx103_3 := clB HB hx103_3
 replace hx103_4 := clB HB hx103_4
 replace hx103_5 := clB HB hx103_5
 replace hx103_6 := clB HB hx103_6
 replace hx103_7 := clB HB hx103_7
 replace hx103_8 := clB HB hx103_8
 replace p103 := eq_true p103
 replace q103 := eq_true q103
 obtain ⟨y, hy⟩ : ∃ y, rd_T32 l0 x13 = y := ⟨_, rfl⟩
 rw [hy] at hmem hstep hx103_0 hx103_1 hx103_2 hx103_3 hx103_4 hx103_5 hx103_6 hx103_7 hx103_8
 have HQ0 := HP.out _ hmem
 clear hy hmem
 obtain ⟨y0, ⟨y1, y2, y3, y4, y5, y6, y7, y8⟩⟩ := y
 simp only at hx103_0 hx103_1 hx103_2 hx103_3 hx103_4 hx103_5 hx103_6 hx103_7 hx103_8
 obtain ⟨⟨gn, gb⟩, hgv⟩ : ∃ gv, g (⟨y0, ⟨y1, y2, y3, y4, y5, y6, y7, y8⟩⟩ : S32) = gv := ⟨_, rfl⟩
 simp only [hgv] at HQ0 hstep
 have HQ := ak HQ0
 clear HQ0 hgv
 have e1 : wrap64 (x13 + 1) = x13 + 1 := by have := HX.out; unfold wrap64; omega
 cases gb with
 | false =>
  skip;{
 have HS2 := ak (show numL_u g (l0.take (i + 1)) = numL_u g (l0.take i) by rw [hstep]; simp)
 clear hstep
 go_wp2_with (first | ((with_reducible refine gate_dst (N := 7) rfl ?_); refine b9 7 ?_; intro gx hg w7 hbox hb; replace HO := rB HO hb; replace BX := ak (hbox); replace GX := ak (bz hg (lG HB)); replace HB := lB HB hb; replace hx103_0 := clb hb hx103_0; replace hx103_1 := clb hb hx103_1; replace hx103_2 := clb hb hx103_2; replace hx103_3 := clb hb hx103_3; replace hx103_4 := clb hb hx103_4; replace hx103_5 := clb hb hx103_5; replace hx103_6 := clb hb hx103_6; replace hx103_7 := clb hb hx103_7; replace hx103_8 := clb hb hx103_8; clear hb hbox hg; obtain ⟨hcx_0, hcx_1, hcx_2, hcx_3, hcx_4, hcx_5, hcx_6, hcx_7, hcx_8, hfx_0, hfx_1, hfx_2, hfx_3, hfx_4, hfx_5, hfx_6, hfx_7, hfx_8⟩ := bC9 BX; skip) | (go_at_call 110; refine (HQ.out _ (lT HB (gC GX gN))).mono ?_; rintro e w8 ⟨rfl, hb⟩; replace HO := ak (Kd.R_mono (Kd.R_below (rT HO BX (by decide)) hb) (fun _ _ => trivial)); replace HB := ak (below_step (lT HB (gC GX gN)) hb); clear hb BX; skip))
 go_roundg k1
 case measure => omega
 case rel => exact ⟨x13 + 1, i + 1, by first | rfl | (rw [e1]) | (simp [e1]; done), ⟨by have := HX.out; omega, by have := HX.out; omega⟩, by rw [HS2.out]; exact ⟨rG HO⟩, ⟨lG HB⟩⟩
 }
 | true =>
  skip;{
 have HS2 := ak (show numL_u g (l0.take (i + 1)) = numL_u g (l0.take i) ++ [gn] by rw [hstep]; simp)
 clear hstep
 go_wp2_with (first | ((with_reducible refine gate_dst (N := 7) rfl ?_); refine b9 7 ?_; intro gx hg w7 hbox hb; replace HO := rB HO hb; replace BX := ak (hbox); replace GX := ak (bz hg (lG HB)); replace HB := lB HB hb; replace hx103_0 := clb hb hx103_0; replace hx103_1 := clb hb hx103_1; replace hx103_2 := clb hb hx103_2; replace hx103_3 := clb hb hx103_3; replace hx103_4 := clb hb hx103_4; replace hx103_5 := clb hb hx103_5; replace hx103_6 := clb hb hx103_6; replace hx103_7 := clb hb hx103_7; replace hx103_8 := clb hb hx103_8; clear hb hbox hg; obtain ⟨hcx_0, hcx_1, hcx_2, hcx_3, hcx_4, hcx_5, hcx_6, hcx_7, hcx_8, hfx_0, hfx_1, hfx_2, hfx_3, hfx_4, hfx_5, hfx_6, hfx_7, hfx_8⟩ := bC9 BX; skip) | (go_at_call 110; refine (HQ.out _ (lT HB (gC GX gN))).mono ?_; rintro e w8 ⟨rfl, hb⟩; replace HO := ak (Kd.R_mono (Kd.R_below (rT HO BX (by decide)) hb) (fun _ _ => trivial)); replace HB := ak (below_step (lT HB (gC GX gN)) hb); clear hb BX; skip) | ((with_reducible refine gate_builtin (b := .append) (xs := #[.tmp 25, .tmp 27]) rfl ?_); at_builtin; refine Kd.R_append (Kd.int .i64) (w0 := w) w.heap.size rfl (.tmp 25) (.tmp 27) 56 3 (.int .i64 0) 8 rfl Try.underlying56 info3 rfl (by decide) (by omega) u5 (numL_u g (l0.take i)) gn [.int .i64 gn] (fun _ => True) (fun _ => False) rfl rfl ?aP (fun _ hk => hk.elim) ?aF ?aO ?aB ?aS ?aL ?_; (case aP => exact rfl); (case aB => exact (lG HB)); (case aF => exact (fun _ _ => trivial)); (case aO => exact (rG HO)); (case aS => exact (below_size (lG HB))); (case aL => have := LM.out; omega); intro v448 w9 ho hb hg hat; replace HB := ak (hb); replace HO := ak (ho); clear ho hb hg hat))
 go_roundg k1
 case measure => omega
 case rel => exact ⟨x13 + 1, i + 1, by first | rfl | (rw [e1]) | (simp [e1]; done), ⟨by have := HX.out; omega, by have := HX.out; omega⟩, by rw [HS2.out]; exact ⟨rG HO⟩, ⟨lG HB⟩⟩
 }
 }
 }
theorem about_calls_n (a0 a1 a2 a3 a4 : Int) (a5 a6 a7 : ByteArray) (k v : Int) (W : World) :
  Calls Try.prog 106 #[.agg #[.int .i64 a0, .int .i64 a1, .int .i64 a2, .int .i64 a3, .int .i64 a4, .string a5, .string a6, .string a7], .int .i64 k, .int .i64 v] W fun e W' => e = .returned (.bool ((a0 == k) && (a1 == v))) ∧ Below W.heap.size W W' := by
 have hu23 := Try.underlying23
 have HA := ak (fun o => below_alloc (Below.refl W.heap.size W) o)
 by_cases c : a0 = k
 {
 subst c
 go_enter Try.func106, Try.ntmps106
 go_wp2
 go_ret
 exact ⟨by simp, HA.out _⟩
 }
 {
 have cb : (a0 == k) = false := beq_eq_false_iff_ne.mpr c
 go_enter Try.func106, Try.ntmps106
 go_wp2
 go_ret
 exact ⟨by simp [cb], HA.out _⟩
 }
def abK (k v : Int) (x : S32) : Bool := (x.f1.f0 == k) && (x.f1.f1 == v)
def nuG (v : Int) (x : S32) : Int × Bool := (x.f1.f2, abK 3 v x || abK 5 v x)
theorem clo_nu (gv : Nat) (v : Int) (x : S32) (W : World) (hv : W.heap[gv]? = some (.cells #[.int .i64 v] 3 (0, 0))) : Calls Try.prog 110 #[.agg #[.int .i64 x.f1.f0, .int .i64 x.f1.f1, .int .i64 x.f1.f2, .int .i64 x.f1.f3, .int .i64 x.f1.f4, .string x.f1.f5, .string x.f1.f6, .string x.f1.f7], .pointer (some ⟨gv, 0, none⟩)] W fun e W' => e = .returned (.tuple #[.int .i64 (nuG v x).1, .bool (nuG v x).2]) ∧ Below W.heap.size W W' := by
 have hu23 := Try.underlying23
 have BV := ak hv
 have HB := ak (Below.refl W.heap.size W)
 clear hv
 obtain ⟨x0, ⟨x1, x2, x3, x4, x5, x6, x7, x8⟩⟩ := x
 simp only
 have H30 : ∀ W, Calls Try.prog 106 #[.agg #[.int .i64 x1, .int .i64 x2, .int .i64 x3, .int .i64 x4, .int .i64 x5, .string x6, .string x7, .string x8], .int .i64 3, .int .i64 v] W fun e W' => e = .returned (.bool ((x1 == 3) && (x2 == v))) ∧ Below W.heap.size W W' := fun W => about_calls_n x1 x2 x3 x4 x5 x6 x7 x8 3 v W
 have H50 : ∀ W, Calls Try.prog 106 #[.agg #[.int .i64 x1, .int .i64 x2, .int .i64 x3, .int .i64 x4, .int .i64 x5, .string x6, .string x7, .string x8], .int .i64 5, .int .i64 v] W fun e W' => e = .returned (.bool ((x1 == 5) && (x2 == v))) ∧ Below W.heap.size W W' := fun W => about_calls_n x1 x2 x3 x4 x5 x6 x7 x8 5 v W
 have HG : nuG v ⟨x0, ⟨x1, x2, x3, x4, x5, x6, x7, x8⟩⟩ = (x3, ((x1 == 3) && (x2 == v)) || ((x1 == 5) && (x2 == v))) := rfl
 obtain ⟨a3, h3⟩ : ∃ a, ((x1 == 3) && (x2 == v)) = a := ⟨_, rfl⟩
 obtain ⟨a5, h5⟩ : ∃ a, ((x1 == 5) && (x2 == v)) = a := ⟨_, rfl⟩
 rw [h3, h5] at HG
 rw [h3] at H30
 rw [h5] at H50
 have HGG := ak HG
 have H3 := ak H30
 have H5 := ak H50
 clear HG h3 h5 H30 H50
 cases a3 with
 | true =>
  skip;{
 go_enter Try.func110, Try.ntmps110
 go_wp2_with (first | ((with_reducible refine gate_dst (N := 2) rfl ?_); refine bx 2 #[.int .i64 x1, .int .i64 x2, .int .i64 x3, .int .i64 x4, .int .i64 x5, .string x6, .string x7, .string x8] 23 ?_; intro gb hg w5 hbox hb; replace BV := bB BV hb; replace BX := ak (hbox); replace HB := lB HB hb; clear hb hbox hg; have hv0 : w5.cell? ⟨gv, 0, none⟩ = some (.int .i64 v) := bc BV 0; obtain ⟨hcx_0, hcx_1, hcx_2, hcx_3, hcx_4, hcx_5, hcx_6, hcx_7, hfx_0, hfx_1, hfx_2, hfx_3, hfx_4, hfx_5, hfx_6, hfx_7⟩ := bC8 BX; skip))
 refine start_ (n := 12) (S := fun w' => w'.cell? ⟨gb, 0, none⟩ = some (.int .i64 x1) ∧ w'.cell? ⟨gb, 1, none⟩ = some (.int .i64 x2) ∧ w'.cell? ⟨gb, 2, none⟩ = some (.int .i64 x3) ∧ w'.cell? ⟨gb, 3, none⟩ = some (.int .i64 x4) ∧ w'.cell? ⟨gb, 4, none⟩ = some (.int .i64 x5) ∧ w'.cell? ⟨gb, 5, none⟩ = some (.string x6) ∧ w'.cell? ⟨gb, 6, none⟩ = some (.string x7) ∧ w'.cell? ⟨gb, 7, none⟩ = some (.string x8) ∧ w'.cell? ⟨gv, 0, none⟩ = some (.int .i64 v)) (ds := []) (fb 12 0) (by kernel_rfl) rfl rfl ⟨bc (ak (bG BX)) 0, bc (ak (bG BX)) 1, bc (ak (bG BX)) 2, bc (ak (bG BX)) 3, bc (ak (bG BX)) 4, bc (ak (bG BX)) 5, bc (ak (bG BX)) 6, bc (ak (bG BX)) 7, bc (ak (bG BV)) 0⟩ (fun hHeld => ?_)
 refine pure_ (i := 0) (N := some 5) (v := ?_) (a' := ?_) #[t_,f_,f_,f_,f_,f_,f_,f_,f_,f_,f_,f_] rfl rfl (by kernel_rfl) (fun _ _ _ h => h) (Or.inl ⟨by rfl, ?_⟩) ?_ ?_
 rotate_left
 {
 intro w'
 go_simp
 with_reducible rfl
 }
 rotate_left
 {
 simp only [Act.put, List.setIfInBounds_toArray, List.set_cons_zero, List.set_cons_succ, i64_w, i32_w]
 rfl
 }
 refine take_ (i := 1) (N := some 6) (v := ?_) (a' := ?_) #[t_,t_,f_,f_,f_,f_,f_,f_,f_,f_,f_,f_] rfl rfl (by kernel_rfl) (fun _ _ _ h => h) (Or.inl ⟨by rfl, ?_⟩) hHeld ?_ ?_
 rotate_left
 {
 rintro w' ⟨s0, s1, s2, s3, s4, s5, s6, s7, s8⟩
 go_simp
 with_reducible rfl
 }
 rotate_left
 {
 simp only [Act.put, List.setIfInBounds_toArray, List.set_cons_zero, List.set_cons_succ, i64_w, i32_w]
 rfl
 }
 refine take_ (i := 2) (N := some 7) (v := ?_) (a' := ?_) #[t_,t_,t_,f_,f_,f_,f_,f_,f_,f_,f_,f_] rfl rfl (by kernel_rfl) (fun _ _ _ h => h) (Or.inl ⟨by rfl, ?_⟩) hHeld ?_ ?_
 rotate_left
 {
 rintro w' ⟨s0, s1, s2, s3, s4, s5, s6, s7, s8⟩
 go_simp
 with_reducible rfl
 }
 rotate_left
 {
 simp only [Act.put, List.setIfInBounds_toArray, List.set_cons_zero, List.set_cons_succ, i64_w, i32_w]
 rfl
 }
 refine take_ (i := 3) (N := some 8) (v := ?_) (a' := ?_) #[t_,t_,t_,t_,f_,f_,f_,f_,f_,f_,f_,f_] rfl rfl (by kernel_rfl) (fun _ _ _ h => h) (Or.inl ⟨by rfl, ?_⟩) hHeld ?_ ?_
 rotate_left
 {
 rintro w' ⟨s0, s1, s2, s3, s4, s5, s6, s7, s8⟩
 go_simp
 with_reducible rfl
 }
 rotate_left
 {
 simp only [Act.put, List.setIfInBounds_toArray, List.set_cons_zero, List.set_cons_succ, i64_w, i32_w]
 rfl
 }
 refine one_ (i := 4) (N := some 9) #[t_,t_,t_,t_,t_,f_,f_,f_,f_,f_,f_,f_] rfl rfl (by kernel_rfl) (by decide) (fun K hK => ?_)
 refine goes_ Try.func106 (by kernel_rfl) rfl #[.agg #[.int .i64 x1, .int .i64 x2, .int .i64 x3, .int .i64 x4, .int .i64 x5, .string x6, .string x7, .string x8], .int .i64 3, .int .i64 v] (by rfl) rfl rfl (by first | rfl | (simp only [List.map_toArray, List.map_cons, List.map_nil]; rfl)) ?_
 refine (H3.out _).mono ?_
 rintro e w61 ⟨rfl, hb⟩
 refine ⟨_, rfl, ?_⟩
 replace BX := bB BX hb
 replace BV := bB BV hb
 replace HB := lB HB hb
 clear hb
 refine hK.out _ _ ⟨bc BX 0, bc BX 1, bc BX 2, bc BX 3, bc BX 4, bc BX 5, bc BX 6, bc BX 7, bc BV 0⟩ (fun hHeld => ?_)
 clear hK K
 refine nm ?_
 refine pure_ (i := 5) (N := some 10) (v := ?_) (a' := ?_) #[t_,t_,t_,t_,t_,t_,f_,f_,f_,f_,f_,f_] rfl rfl (by kernel_rfl) (fun _ _ _ h => h) (Or.inl ⟨by rfl, ?_⟩) ?_ ?_
 rotate_left
 {
 intro w'
 go_simp
 with_reducible rfl
 }
 rotate_left
 {
 simp only [Act.put, List.setIfInBounds_toArray, List.set_cons_zero, List.set_cons_succ, i64_w, i32_w]
 rfl
 }
 refine pure_ (i := 6) (N := some 11) (v := undef) (a' := ?_) #[t_,t_,t_,t_,t_,t_,t_,f_,f_,f_,f_,f_] rfl rfl (by kernel_rfl) (fun _ _ _ h => h) (Or.inr ⟨by rfl, rfl⟩) ?_ ?_
 rotate_left
 {
 simp only [Act.put, List.setIfInBounds_toArray, List.set_cons_zero, List.set_cons_succ, i64_w, i32_w]
 rfl
 }
 refine pure_ (i := 7) (N := some 12) (v := undef) (a' := ?_) #[t_,t_,t_,t_,t_,t_,t_,t_,f_,f_,f_,f_] rfl rfl (by kernel_rfl) (fun _ _ _ h => h) (Or.inr ⟨by rfl, rfl⟩) ?_ ?_
 rotate_left
 {
 simp only [Act.put, List.setIfInBounds_toArray, List.set_cons_zero, List.set_cons_succ, i64_w, i32_w]
 rfl
 }
 refine pure_ (i := 8) (N := some 13) (v := undef) (a' := ?_) #[t_,t_,t_,t_,t_,t_,t_,t_,t_,f_,f_,f_] rfl rfl (by kernel_rfl) (fun _ _ _ h => h) (Or.inr ⟨by rfl, rfl⟩) ?_ ?_
 rotate_left
 {
 simp only [Act.put, List.setIfInBounds_toArray, List.set_cons_zero, List.set_cons_succ, i64_w, i32_w]
 rfl
 }
 refine pure_ (i := 9) (N := some 14) (v := ?_) (a' := ?_) #[t_,t_,t_,t_,t_,t_,t_,t_,t_,t_,f_,f_] rfl rfl (by kernel_rfl) (fun _ _ _ h => h) (Or.inl ⟨by rfl, ?_⟩) ?_ ?_
 rotate_left
 {
 intro w'
 go_simp
 with_reducible rfl
 }
 rotate_left
 {
 simp only [Act.put, List.setIfInBounds_toArray, List.set_cons_zero, List.set_cons_succ, i64_w, i32_w]
 rfl
 }
 refine pure_ (i := 10) (N := some 3) (v := ?_) (a' := ?_) #[t_,t_,t_,t_,t_,t_,t_,t_,t_,t_,t_,f_] rfl rfl (by kernel_rfl) (fun _ _ _ h => h) (Or.inl ⟨by rfl, ?_⟩) ?_ ?_
 rotate_left
 {
 intro w'
 go_simp
 with_reducible rfl
 }
 rotate_left
 {
 simp only [Act.put, List.setIfInBounds_toArray, List.set_cons_zero, List.set_cons_succ, i64_w, i32_w]
 rfl
 }
 refine pure_ (i := 11) (N := some 4) (v := ?_) (a' := ?_) #[t_,t_,t_,t_,t_,t_,t_,t_,t_,t_,t_,t_] rfl rfl (by kernel_rfl) (fun _ _ _ h => h) (Or.inl ⟨by rfl, ?_⟩) ?_ ?_
 rotate_left
 {
 intro w'
 go_simp
 with_reducible rfl
 }
 rotate_left
 {
 simp only [Act.put, List.setIfInBounds_toArray, List.set_cons_zero, List.set_cons_succ, i64_w, i32_w]
 rfl
 }
 refine done_ (by kernel_rfl) ?_
 try go_wp2
 go_ret2
 exact ⟨by rw [HGG.out]; simp, lG HB⟩
 }
 | false =>
  skip;{
 go_enter Try.func110, Try.ntmps110
 go_wp2_with (first | ((with_reducible refine gate_dst (N := 2) rfl ?_); refine bx 2 #[.int .i64 x1, .int .i64 x2, .int .i64 x3, .int .i64 x4, .int .i64 x5, .string x6, .string x7, .string x8] 23 ?_; intro gb hg w5 hbox hb; replace BV := bB BV hb; replace BX := ak (hbox); replace HB := lB HB hb; clear hb hbox hg; have hv0 : w5.cell? ⟨gv, 0, none⟩ = some (.int .i64 v) := bc BV 0; obtain ⟨hcx_0, hcx_1, hcx_2, hcx_3, hcx_4, hcx_5, hcx_6, hcx_7, hfx_0, hfx_1, hfx_2, hfx_3, hfx_4, hfx_5, hfx_6, hfx_7⟩ := bC8 BX; skip))
 refine start_ (n := 12) (S := fun w' => w'.cell? ⟨gb, 0, none⟩ = some (.int .i64 x1) ∧ w'.cell? ⟨gb, 1, none⟩ = some (.int .i64 x2) ∧ w'.cell? ⟨gb, 2, none⟩ = some (.int .i64 x3) ∧ w'.cell? ⟨gb, 3, none⟩ = some (.int .i64 x4) ∧ w'.cell? ⟨gb, 4, none⟩ = some (.int .i64 x5) ∧ w'.cell? ⟨gb, 5, none⟩ = some (.string x6) ∧ w'.cell? ⟨gb, 6, none⟩ = some (.string x7) ∧ w'.cell? ⟨gb, 7, none⟩ = some (.string x8) ∧ w'.cell? ⟨gv, 0, none⟩ = some (.int .i64 v)) (ds := []) (fb 12 0) (by kernel_rfl) rfl rfl ⟨bc (ak (bG BX)) 0, bc (ak (bG BX)) 1, bc (ak (bG BX)) 2, bc (ak (bG BX)) 3, bc (ak (bG BX)) 4, bc (ak (bG BX)) 5, bc (ak (bG BX)) 6, bc (ak (bG BX)) 7, bc (ak (bG BV)) 0⟩ (fun hHeld => ?_)
 refine pure_ (i := 0) (N := some 5) (v := ?_) (a' := ?_) #[t_,f_,f_,f_,f_,f_,f_,f_,f_,f_,f_,f_] rfl rfl (by kernel_rfl) (fun _ _ _ h => h) (Or.inl ⟨by rfl, ?_⟩) ?_ ?_
 rotate_left
 {
 intro w'
 go_simp
 with_reducible rfl
 }
 rotate_left
 {
 simp only [Act.put, List.setIfInBounds_toArray, List.set_cons_zero, List.set_cons_succ, i64_w, i32_w]
 rfl
 }
 refine take_ (i := 1) (N := some 6) (v := ?_) (a' := ?_) #[t_,t_,f_,f_,f_,f_,f_,f_,f_,f_,f_,f_] rfl rfl (by kernel_rfl) (fun _ _ _ h => h) (Or.inl ⟨by rfl, ?_⟩) hHeld ?_ ?_
 rotate_left
 {
 rintro w' ⟨s0, s1, s2, s3, s4, s5, s6, s7, s8⟩
 go_simp
 with_reducible rfl
 }
 rotate_left
 {
 simp only [Act.put, List.setIfInBounds_toArray, List.set_cons_zero, List.set_cons_succ, i64_w, i32_w]
 rfl
 }
 refine take_ (i := 2) (N := some 7) (v := ?_) (a' := ?_) #[t_,t_,t_,f_,f_,f_,f_,f_,f_,f_,f_,f_] rfl rfl (by kernel_rfl) (fun _ _ _ h => h) (Or.inl ⟨by rfl, ?_⟩) hHeld ?_ ?_
 rotate_left
 {
 rintro w' ⟨s0, s1, s2, s3, s4, s5, s6, s7, s8⟩
 go_simp
 with_reducible rfl
 }
 rotate_left
 {
 simp only [Act.put, List.setIfInBounds_toArray, List.set_cons_zero, List.set_cons_succ, i64_w, i32_w]
 rfl
 }
 refine take_ (i := 3) (N := some 8) (v := ?_) (a' := ?_) #[t_,t_,t_,t_,f_,f_,f_,f_,f_,f_,f_,f_] rfl rfl (by kernel_rfl) (fun _ _ _ h => h) (Or.inl ⟨by rfl, ?_⟩) hHeld ?_ ?_
 rotate_left
 {
 rintro w' ⟨s0, s1, s2, s3, s4, s5, s6, s7, s8⟩
 go_simp
 with_reducible rfl
 }
 rotate_left
 {
 simp only [Act.put, List.setIfInBounds_toArray, List.set_cons_zero, List.set_cons_succ, i64_w, i32_w]
 rfl
 }
 refine one_ (i := 4) (N := some 9) #[t_,t_,t_,t_,t_,f_,f_,f_,f_,f_,f_,f_] rfl rfl (by kernel_rfl) (by decide) (fun K hK => ?_)
 refine goes_ Try.func106 (by kernel_rfl) rfl #[.agg #[.int .i64 x1, .int .i64 x2, .int .i64 x3, .int .i64 x4, .int .i64 x5, .string x6, .string x7, .string x8], .int .i64 3, .int .i64 v] (by rfl) rfl rfl (by first | rfl | (simp only [List.map_toArray, List.map_cons, List.map_nil]; rfl)) ?_
 refine (H3.out _).mono ?_
 rintro e w61 ⟨rfl, hb⟩
 refine ⟨_, rfl, ?_⟩
 replace BX := bB BX hb
 replace BV := bB BV hb
 replace HB := lB HB hb
 clear hb
 refine hK.out _ _ ⟨bc BX 0, bc BX 1, bc BX 2, bc BX 3, bc BX 4, bc BX 5, bc BX 6, bc BX 7, bc BV 0⟩ (fun hHeld => ?_)
 clear hK K
 refine nm ?_
 refine pure_ (i := 5) (N := some 10) (v := ?_) (a' := ?_) #[t_,t_,t_,t_,t_,t_,f_,f_,f_,f_,f_,f_] rfl rfl (by kernel_rfl) (fun _ _ _ h => h) (Or.inl ⟨by rfl, ?_⟩) ?_ ?_
 rotate_left
 {
 intro w'
 go_simp
 with_reducible rfl
 }
 rotate_left
 {
 simp only [Act.put, List.setIfInBounds_toArray, List.set_cons_zero, List.set_cons_succ, i64_w, i32_w]
 rfl
 }
 refine take_ (i := 6) (N := some 11) (v := ?_) (a' := ?_) #[t_,t_,t_,t_,t_,t_,t_,f_,f_,f_,f_,f_] rfl rfl (by kernel_rfl) (fun _ _ _ h => h) (Or.inl ⟨by rfl, ?_⟩) hHeld ?_ ?_
 rotate_left
 {
 rintro w' ⟨s0, s1, s2, s3, s4, s5, s6, s7, s8⟩
 go_simp
 with_reducible rfl
 }
 rotate_left
 {
 simp only [Act.put, List.setIfInBounds_toArray, List.set_cons_zero, List.set_cons_succ, i64_w, i32_w]
 rfl
 }
 refine take_ (i := 7) (N := some 12) (v := ?_) (a' := ?_) #[t_,t_,t_,t_,t_,t_,t_,t_,f_,f_,f_,f_] rfl rfl (by kernel_rfl) (fun _ _ _ h => h) (Or.inl ⟨by rfl, ?_⟩) hHeld ?_ ?_
 rotate_left
 {
 rintro w' ⟨s0, s1, s2, s3, s4, s5, s6, s7, s8⟩
 go_simp
 with_reducible rfl
 }
 rotate_left
 {
 simp only [Act.put, List.setIfInBounds_toArray, List.set_cons_zero, List.set_cons_succ, i64_w, i32_w]
 rfl
 }
 refine one_ (i := 8) (N := some 13) #[t_,t_,t_,t_,t_,t_,t_,t_,t_,f_,f_,f_] rfl rfl (by kernel_rfl) (by decide) (fun K hK => ?_)
 refine goes_ Try.func106 (by kernel_rfl) rfl #[.agg #[.int .i64 x1, .int .i64 x2, .int .i64 x3, .int .i64 x4, .int .i64 x5, .string x6, .string x7, .string x8], .int .i64 5, .int .i64 v] (by rfl) rfl rfl (by first | rfl | (simp only [List.map_toArray, List.map_cons, List.map_nil]; rfl)) ?_
 refine (H5.out _).mono ?_
 rintro e w62 ⟨rfl, hb⟩
 refine ⟨_, rfl, ?_⟩
 replace BX := bB BX hb
 replace BV := bB BV hb
 replace HB := lB HB hb
 clear hb
 refine hK.out _ _ ⟨bc BX 0, bc BX 1, bc BX 2, bc BX 3, bc BX 4, bc BX 5, bc BX 6, bc BX 7, bc BV 0⟩ (fun hHeld => ?_)
 clear hK K
 refine nm ?_
 refine pure_ (i := 9) (N := some 14) (v := ?_) (a' := ?_) #[t_,t_,t_,t_,t_,t_,t_,t_,t_,t_,f_,f_] rfl rfl (by kernel_rfl) (fun _ _ _ h => h) (Or.inl ⟨by rfl, ?_⟩) ?_ ?_
 rotate_left
 {
 intro w'
 go_simp
 with_reducible rfl
 }
 rotate_left
 {
 simp only [Act.put, List.setIfInBounds_toArray, List.set_cons_zero, List.set_cons_succ, i64_w, i32_w]
 rfl
 }
 refine pure_ (i := 10) (N := some 3) (v := ?_) (a' := ?_) #[t_,t_,t_,t_,t_,t_,t_,t_,t_,t_,t_,f_] rfl rfl (by kernel_rfl) (fun _ _ _ h => h) (Or.inl ⟨by rfl, ?_⟩) ?_ ?_
 rotate_left
 {
 intro w'
 go_simp
 with_reducible rfl
 }
 rotate_left
 {
 simp only [Act.put, List.setIfInBounds_toArray, List.set_cons_zero, List.set_cons_succ, i64_w, i32_w]
 rfl
 }
 refine pure_ (i := 11) (N := some 4) (v := ?_) (a' := ?_) #[t_,t_,t_,t_,t_,t_,t_,t_,t_,t_,t_,t_] rfl rfl (by kernel_rfl) (fun _ _ _ h => h) (Or.inl ⟨by rfl, ?_⟩) ?_ ?_
 rotate_left
 {
 intro w'
 go_simp
 with_reducible rfl
 }
 rotate_left
 {
 simp only [Act.put, List.setIfInBounds_toArray, List.set_cons_zero, List.set_cons_succ, i64_w, i32_w]
 rfl
 }
 refine done_ (by kernel_rfl) ?_
 try go_wp2
 go_ret2
 exact ⟨by rw [HGG.out]; simp, lG HB⟩
 }
def impl_numbers_uid.f (l0 : List S32) (a1 : Int) : Option (List Int) := if l0.length < 17592186044416 then some (numC_u (numL_u (nuG a1) l0)) else none
theorem impl_numbers_uid.calls (gv : Nat) (A0 : Option Addr) (c0 : Nat) (l0 : List S32) (a1 : Int) (r : List Int) (w : World) (hv : w.heap[gv]? = some (.cells #[.int .i64 a1] 3 (0, 0))) (hr0 : Kd.C k32 w A0 l0.length l0) (hc0 : l0.length ≤ c0) (h : impl_numbers_uid.f l0 a1 = some r) :
  Calls Try.prog 74 #[.slice A0 l0.length c0, .func (.func 110) #[] #[.pointer (some ⟨gv, 0, none⟩)]] w fun e w' => ∃ v0_ : Value, e = .returned (v0_) ∧ Kd.R (Kd.int .i64) 3 w' w.heap.size (fun _ => True) v0_ r ∧ Below w.heap.size w w' := by
 unfold impl_numbers_uid.f at h
 split at h
 ·next hl =>
  obtain rfl := Option.some.inj h
  exact numbers_nu #[.pointer (some ⟨gv, 0, none⟩)] (nuG a1) A0 c0 l0 w hr0 hc0 hl (fun x _ W hW => clo_nu gv a1 x W (blk_below hv hW))
 ·cases h
-- NOT PRINTED: function 104 (impl_latest)
def impl_bySeq.f (a0_0 : Int) (a0_1 : Int) (a0_2 : Int) (a0_3 : Int) (a0_4 : Int) (a0_5 : Int) (a0_6 : ByteArray) (a0_7 : ByteArray) (a0_8 : ByteArray) (a1_0 : Int) (a1_1 : Int) (a1_2 : Int) (a1_3 : Int) (a1_4 : Int) (a1_5 : Int) (a1_6 : ByteArray) (a1_7 : ByteArray) (a1_8 : ByteArray) : Option (Bool) := some (decide (a0_0 < a1_0))
theorem impl_bySeq.calls (a0_0 : Int) (a0_1 : Int) (a0_2 : Int) (a0_3 : Int) (a0_4 : Int) (a0_5 : Int) (a0_6 : ByteArray) (a0_7 : ByteArray) (a0_8 : ByteArray) (a1_0 : Int) (a1_1 : Int) (a1_2 : Int) (a1_3 : Int) (a1_4 : Int) (a1_5 : Int) (a1_6 : ByteArray) (a1_7 : ByteArray) (a1_8 : ByteArray) (r : Bool) (w : World) (h : impl_bySeq.f a0_0 a0_1 a0_2 a0_3 a0_4 a0_5 a0_6 a0_7 a0_8 a1_0 a1_1 a1_2 a1_3 a1_4 a1_5 a1_6 a1_7 a1_8 = some r) :
  Calls Try.prog 107 #[.agg #[.int .i64 a0_0, .int .i64 a0_1, .int .i64 a0_2, .int .i64 a0_3, .int .i64 a0_4, .int .i64 a0_5, .string a0_6, .string a0_7, .string a0_8], .agg #[.int .i64 a1_0, .int .i64 a1_1, .int .i64 a1_2, .int .i64 a1_3, .int .i64 a1_4, .int .i64 a1_5, .string a1_6, .string a1_7, .string a1_8]] w fun e w' => e = .returned (.bool r) ∧ Below w.heap.size w w' := by
 have hu32 := Try.underlying32
 have HB := ak (Below.refl w.heap.size w)
 have H := h
 clear h
 unfold impl_bySeq.f at H
 obtain rfl := Option.some.inj H
 go_enter Try.func107, Try.ntmps107
 go_wp2_with (first | ((with_reducible refine gate_dst (N := 2) rfl ?_); refine bx 2 #[.int .i64 a0_0, .int .i64 a0_1, .int .i64 a0_2, .int .i64 a0_3, .int .i64 a0_4, .int .i64 a0_5, .string a0_6, .string a0_7, .string a0_8] 32 ?_; intro gb141 hg w3 hbox hb; replace BK141 := ak (hbox); replace GE141 := ak (bz hg (lG HB)); replace HB := lB HB hb; clear hb hbox hg) | ((with_reducible refine gate_dst (N := 3) rfl ?_); refine bx 3 #[.int .i64 a1_0, .int .i64 a1_1, .int .i64 a1_2, .int .i64 a1_3, .int .i64 a1_4, .int .i64 a1_5, .string a1_6, .string a1_7, .string a1_8] 32 ?_; intro gb142 hg w4 hbox hb; replace BK142 := ak (hbox); replace GW142 := ak (bz hg (lT HB (gC GE141 gN))); replace GE142 := ak (bz hg (lT HB (gC GE141 gN))); replace HB := ak (below_step (lT HB (gC GE141 gN)) hb); replace NB141_142 := ak (nl hg (bG BK141)); replace NB142_141 := ak (ng hg (bG BK141)); replace BK141 := bB BK141 hb; clear hb hbox hg; have hnb5 := NB141_142.out; have hnc5 := NB142_141.out; obtain ⟨_, _, _, _, _, _, _, _, _, _, _, _, _, _, _, _, _, _⟩ := bC9 BK141; obtain ⟨_, _, _, _, _, _, _, _, _, _, _, _, _, _, _, _, _, _⟩ := bC9 BK142))
 go_ret
 exact ⟨ew, by exact lT HB (gC GE141 (gC GE142 gN))⟩
def impl_byNext.f (a0_0 : Int) (a0_1 : Int) (a0_2 : Int) (a0_3 : Int) (a0_4 : Int) (a0_5 : Int) (a0_6 : ByteArray) (a0_7 : ByteArray) (a0_8 : ByteArray) (a1_0 : Int) (a1_1 : Int) (a1_2 : Int) (a1_3 : Int) (a1_4 : Int) (a1_5 : Int) (a1_6 : ByteArray) (a1_7 : ByteArray) (a1_8 : ByteArray) : Option (Bool) := if a0_4 = a1_4 then (some (decide (a0_0 < a1_0))) else (some (decide (a0_4 < a1_4)))
theorem impl_byNext.calls (a0_0 : Int) (a0_1 : Int) (a0_2 : Int) (a0_3 : Int) (a0_4 : Int) (a0_5 : Int) (a0_6 : ByteArray) (a0_7 : ByteArray) (a0_8 : ByteArray) (a1_0 : Int) (a1_1 : Int) (a1_2 : Int) (a1_3 : Int) (a1_4 : Int) (a1_5 : Int) (a1_6 : ByteArray) (a1_7 : ByteArray) (a1_8 : ByteArray) (r : Bool) (w : World) (h : impl_byNext.f a0_0 a0_1 a0_2 a0_3 a0_4 a0_5 a0_6 a0_7 a0_8 a1_0 a1_1 a1_2 a1_3 a1_4 a1_5 a1_6 a1_7 a1_8 = some r) :
  Calls Try.prog 109 #[.agg #[.int .i64 a0_0, .int .i64 a0_1, .int .i64 a0_2, .int .i64 a0_3, .int .i64 a0_4, .int .i64 a0_5, .string a0_6, .string a0_7, .string a0_8], .agg #[.int .i64 a1_0, .int .i64 a1_1, .int .i64 a1_2, .int .i64 a1_3, .int .i64 a1_4, .int .i64 a1_5, .string a1_6, .string a1_7, .string a1_8]] w fun e w' => e = .returned (.bool r) ∧ Below w.heap.size w w' := by
 have hu32 := Try.underlying32
 have HB := ak (Below.refl w.heap.size w)
 have H := h
 clear h
 unfold impl_byNext.f at H
 by_cases c3 : a0_4 = a1_4
 {
 rw [if_pos c3] at H
 have c3b0 := beq_iff_eq.mpr c3
 have c3b1 := bne_eq_false_iff_eq.mpr c3
 clear c3
 obtain rfl := Option.some.inj H
 go_enter Try.func109, Try.ntmps109
 go_wp2_with (first | ((with_reducible refine gate_dst (N := 2) rfl ?_); refine bx 2 #[.int .i64 a0_0, .int .i64 a0_1, .int .i64 a0_2, .int .i64 a0_3, .int .i64 a0_4, .int .i64 a0_5, .string a0_6, .string a0_7, .string a0_8] 32 ?_; intro gb143 hg w4 hbox hb; replace BK143 := ak (hbox); replace GE143 := ak (bz hg (lG HB)); replace HB := lB HB hb; clear hb hbox hg) | ((with_reducible refine gate_dst (N := 3) rfl ?_); refine bx 3 #[.int .i64 a1_0, .int .i64 a1_1, .int .i64 a1_2, .int .i64 a1_3, .int .i64 a1_4, .int .i64 a1_5, .string a1_6, .string a1_7, .string a1_8] 32 ?_; intro gb144 hg w5 hbox hb; replace BK144 := ak (hbox); replace GW144 := ak (bz hg (lT HB (gC GE143 gN))); replace GE144 := ak (bz hg (lT HB (gC GE143 gN))); replace HB := ak (below_step (lT HB (gC GE143 gN)) hb); replace NB143_144 := ak (nl hg (bG BK143)); replace NB144_143 := ak (ng hg (bG BK143)); replace BK143 := bB BK143 hb; clear hb hbox hg; have hnb6 := NB143_144.out; have hnc6 := NB144_143.out; obtain ⟨_, _, _, _, _, _, _, _, _, _, _, _, _, _, _, _, _, _⟩ := bC9 BK143; obtain ⟨_, _, _, _, _, _, _, _, _, _, _, _, _, _, _, _, _, _⟩ := bC9 BK144))
 go_ret
 exact ⟨ew, by exact lT HB (gC GE143 (gC GE144 gN))⟩
 }
 {
 rw [if_neg c3] at H
 have c3b0 := beq_eq_false_iff_ne.mpr c3
 have c3b1 := bne_iff_ne.mpr c3
 obtain rfl := Option.some.inj H
 go_enter Try.func109, Try.ntmps109
 go_wp2_with (first | ((with_reducible refine gate_dst (N := 2) rfl ?_); refine bx 2 #[.int .i64 a0_0, .int .i64 a0_1, .int .i64 a0_2, .int .i64 a0_3, .int .i64 a0_4, .int .i64 a0_5, .string a0_6, .string a0_7, .string a0_8] 32 ?_; intro gb143 hg w9 hbox hb; replace BK143 := ak (hbox); replace GE143 := ak (bz hg (lG HB)); replace HB := lB HB hb; clear hb hbox hg) | ((with_reducible refine gate_dst (N := 3) rfl ?_); refine bx 3 #[.int .i64 a1_0, .int .i64 a1_1, .int .i64 a1_2, .int .i64 a1_3, .int .i64 a1_4, .int .i64 a1_5, .string a1_6, .string a1_7, .string a1_8] 32 ?_; intro gb144 hg w10 hbox hb; replace BK144 := ak (hbox); replace GW144 := ak (bz hg (lT HB (gC GE143 gN))); replace GE144 := ak (bz hg (lT HB (gC GE143 gN))); replace HB := ak (below_step (lT HB (gC GE143 gN)) hb); replace NB143_144 := ak (nl hg (bG BK143)); replace NB144_143 := ak (ng hg (bG BK143)); replace BK143 := bB BK143 hb; clear hb hbox hg; have hnb11 := NB143_144.out; have hnc11 := NB144_143.out; obtain ⟨_, _, _, _, _, _, _, _, _, _, _, _, _, _, _, _, _, _⟩ := bC9 BK143; obtain ⟨_, _, _, _, _, _, _, _, _, _, _, _, _, _, _, _, _, _⟩ := bC9 BK144))
 go_ret
 exact ⟨ew, by exact lT HB (gC GE143 (gC GE144 gN))⟩
 }
def ltStep (p : S32 → Bool) (q : S32 → S32 → Bool) (st : S32 × Bool) (x : S32) : S32 × Bool := if p x && (!st.2 || q st.1 x) then (x, true) else st
def latestM (p : S32 → Bool) (q : S32 → S32 → Bool) (l : List S32) : S32 × Bool := l.foldl (ltStep p q) (z32, false)
theorem latestM_take (p : S32 → Bool) (q : S32 → S32 → Bool) (l : List S32) (i : Nat) (h : i < l.length) : latestM p q (l.take (i + 1)) = ltStep p q (latestM p q (l.take i)) (rd_T32 l (i : Int)) := by
 unfold latestM
 rw [List.take_succ_eq_append_getElem h, List.foldl_append]
 simp only [List.foldl_cons, List.foldl_nil]
 congr 1
 unfold rd_T32
 rw [Int.toNat_natCast, List.getD_eq_getElem?_getD, List.getElem?_eq_getElem h]
 rfl
theorem latest_drop (caps : Array Value) (p : S32 → Bool) (q : S32 → S32 → Bool) (A0 : Option Addr) (c0 : Nat) (l0 : List S32) (w : World) (hr0 : Kd.C k32 w A0 l0.length l0) (hc0 : l0.length ≤ c0)
  (hp : ∀ x, x ∈ l0 → ∀ W, Below w.heap.size w W → Calls Try.prog 105 (#[.agg #[.int .i64 x.f1.f0, .int .i64 x.f1.f1, .int .i64 x.f1.f2, .int .i64 x.f1.f3, .int .i64 x.f1.f4, .string x.f1.f5, .string x.f1.f6, .string x.f1.f7]] ++ caps) W fun e W' => e = .returned (.bool (p x)) ∧ Below W.heap.size W W')
  (hq : ∀ (x y : S32) W, Calls Try.prog 107 #[.agg #[.int .i64 x.f0, .int .i64 x.f1.f0, .int .i64 x.f1.f1, .int .i64 x.f1.f2, .int .i64 x.f1.f3, .int .i64 x.f1.f4, .string x.f1.f5, .string x.f1.f6, .string x.f1.f7], .agg #[.int .i64 y.f0, .int .i64 y.f1.f0, .int .i64 y.f1.f1, .int .i64 y.f1.f2, .int .i64 y.f1.f3, .int .i64 y.f1.f4, .string y.f1.f5, .string y.f1.f6, .string y.f1.f7]] W fun e W' => e = .returned (.bool (q x y)) ∧ Below W.heap.size W W') :
  Calls Try.prog 104 #[.slice A0 l0.length c0, .func (.func 105) #[] caps, .func (.func 107) #[] #[]] w fun e w' => e = .returned (.tuple #[.agg #[.int .i64 (latestM p q l0).1.f0, .int .i64 (latestM p q l0).1.f1.f0, .int .i64 (latestM p q l0).1.f1.f1, .int .i64 (latestM p q l0).1.f1.f2, .int .i64 (latestM p q l0).1.f1.f3, .int .i64 (latestM p q l0).1.f1.f4, .string (latestM p q l0).1.f1.f5, .string (latestM p q l0).1.f1.f6, .string (latestM p q l0).1.f1.f7], .bool (latestM p q l0).2]) ∧ Below w.heap.size w w' := by
 have hu23 := Try.underlying23
 have hu32 := Try.underlying32
 have HR0 := ak hr0
 have HC0 := ak hc0
 have HP := ak hp
 have HP2 := ak hq
 have hm : l0.length ≤ 9223372036854775807 := hr0.2.1
 have HB := ak (Below.refl w.heap.size w)
 clear hr0 hc0 hp hq
 go_enter Try.func104, Try.ntmps104
 go_wp2_with (first | ((with_reducible refine gate_dst (N := 6) rfl ?_); refine b9 6 ?_; intro gg hg w3 hbox hb; replace BG := ak (hbox); replace GG := ak (bz hg (lG HB)); replace HB := lB HB hb; clear hb hbox hg; obtain ⟨hcg_0, hcg_1, hcg_2, hcg_3, hcg_4, hcg_5, hcg_6, hcg_7, hcg_8, hfg_0, hfg_1, hfg_2, hfg_3, hfg_4, hfg_5, hfg_6, hfg_7, hfg_8⟩ := bC9 BG; skip) | ((with_reducible refine gate_dst (N := 8) rfl ?_); refine b9 8 ?_; intro gb hg w5 hbox hb; replace NGB := ak (nl hg (bG BG)); replace BG := bB BG hb; replace BB := ak (hbox); replace GB := ak (bz hg (lG HB)); replace HB := lB HB hb; clear hb hbox hg; obtain ⟨hcb_0, hcb_1, hcb_2, hcb_3, hcb_4, hcb_5, hcb_6, hcb_7, hcb_8, hfb_0, hfb_1, hfb_2, hfb_3, hfb_4, hfb_5, hfb_6, hfb_7, hfb_8⟩ := bC9 BB; skip))
 go_loopg [9, 15] l0.length (fun kq v9 v15 w' => ∃ (x15 : Int) (i : Nat), v9 = .bool (latestM p q (l0.take i)).2 ∧ v15 = .int .i64 x15 ∧ Aside0 (x15 = (i : Int) ∧ kq + i = l0.length) ∧ Aside0 (w'.heap[gg]? = some (.cells #[.int .i64 0, .int .i64 0, .int .i64 0, .int .i64 0, .int .i64 0, .int .i64 0, .string (⟨#[]⟩ : ByteArray), .string (⟨#[]⟩ : ByteArray), .string (⟨#[]⟩ : ByteArray)] 32 (0, 0))) ∧ Aside0 (w'.heap[gb]? = some (.cells #[.int .i64 (latestM p q (l0.take i)).1.f0, .int .i64 (latestM p q (l0.take i)).1.f1.f0, .int .i64 (latestM p q (l0.take i)).1.f1.f1, .int .i64 (latestM p q (l0.take i)).1.f1.f2, .int .i64 (latestM p q (l0.take i)).1.f1.f3, .int .i64 (latestM p q (l0.take i)).1.f1.f4, .string (latestM p q (l0.take i)).1.f1.f5, .string (latestM p q (l0.take i)).1.f1.f6, .string (latestM p q (l0.take i)).1.f1.f7] 32 (0, 0))) ∧ Aside0 (Below w.heap.size w w'))
 case atStart => exact ⟨0, 0, by first | rfl | (simp; done), by first | rfl | (simp; done), ⟨rfl, rfl⟩, ⟨bT BG (nC NGB nN)⟩, ⟨bW BB⟩, ⟨lT HB (gC GB gN)⟩⟩
 case round =>
  skip;{
 clear BG BB HB
 obtain ⟨x15, i, rfl, rfl, HX, BG, BB, HB⟩ := hrel
 obtain ⟨⟨⟨b0, ⟨b1, b2, b3, b4, b5, b6, b7, b8⟩⟩, fd⟩, hst⟩ : ∃ st, latestM p q (l0.take i) = st := ⟨_, rfl⟩
 rw [hst] at BB ⊢
 have HST := ak hst
 clear hst
 simp only at BB ⊢
 cases gk with
 | zero =>
  skip;{
 have c4 : decide (x15 < (l0.length : Int)) = false := decide_eq_false (by have := HX.out; omega)
 have hend : latestM p q l0 = (⟨b0, ⟨b1, b2, b3, b4, b5, b6, b7, b8⟩⟩, fd) := by rw [← HST.out, List.take_of_length_le (by have := HX.out; omega)]
 have HE := ak hend
 clear hend
 obtain ⟨hcg_0, hcg_1, hcg_2, hcg_3, hcg_4, hcg_5, hcg_6, hcg_7, hcg_8, hfg_0, hfg_1, hfg_2, hfg_3, hfg_4, hfg_5, hfg_6, hfg_7, hfg_8⟩ := bC9 BG
 obtain ⟨hcb_0, hcb_1, hcb_2, hcb_3, hcb_4, hcb_5, hcb_6, hcb_7, hcb_8, hfb_0, hfb_1, hfb_2, hfb_3, hfb_4, hfb_5, hfb_6, hfb_7, hfb_8⟩ := bC9 BB
 have hng := NGB.out
 go_wp2
 refine bodyPost_ret (results_ct rfl _ _ gg 32 #[.int .i64 b0, .int .i64 b1, .int .i64 b2, .int .i64 b3, .int .i64 b4, .int .i64 b5, .string b6, .string b7, .string b8] (0, 0) _ rfl (bW BG) Try.underlying32 rfl (by kernel_rfl)) rfl ?_
 exact ⟨by rw [HE.out]; rfl, lT HB (gC GG gN)⟩
 }
 | succ k1 =>
  skip;{
 have c4 : decide (x15 < (l0.length : Int)) = true := decide_eq_true (by have := HX.out; omega)
 have c5 : decide (0 ≤ x15) = true := decide_eq_true (by have := HX.out; omega)
 have hi : i < l0.length := by have := HX.out; omega
 have hstep := latestM_take p q l0 i hi
 rw [HST.out, ← HX.out.1] at hstep
 have hmem : rd_T32 l0 x15 ∈ l0 := by
  rw [HX.out.1]
  unfold rd_T32
  rw [Int.toNat_natCast, List.getD_eq_getElem?_getD, List.getElem?_eq_getElem hi]
  exact List.getElem_mem hi
 have p103 : 0 ≤ (x15 : Int) := by have := HX.out; omega
 have q103 : x15 < (l0.length : Int) := by have := HX.out; omega
 obtain ⟨ad103, e103, hx103_0, hx103_1, hx103_2, hx103_3, hx103_4, hx103_5, hx103_6, hx103_7, hx103_8⟩ := at_T32 HR0.out x15 p103 q103
 cases e103
 replace hx103_0 := clB HB hx103_0
 replace hx103_1 := clB HB hx103_1
 replace hx103_2 := clB HB hx103_2
 replace hx103_3 := clB HB hx103_3
 replace hx103_4 := clB HB hx103_4
 replace hx103_5 := clB HB hx103_5
 replace hx103_6 := clB HB hx103_6
 replace hx103_7 := clB HB hx103_7
 replace hx103_8 := clB HB hx103_8
 replace p103 := eq_true p103
 replace q103 := eq_true q103
 obtain ⟨y, hy⟩ : ∃ y, rd_T32 l0 x15 = y := ⟨_, rfl⟩
 rw [hy] at hmem hstep hx103_0 hx103_1 hx103_2 hx103_3 hx103_4 hx103_5 hx103_6 hx103_7 hx103_8
 have HQ0 := HP.out _ hmem
 clear hy hi hmem
 obtain ⟨y0, ⟨y1, y2, y3, y4, y5, y6, y7, y8⟩⟩ := y
 simp only at hx103_0 hx103_1 hx103_2 hx103_3 hx103_4 hx103_5 hx103_6 hx103_7 hx103_8
 obtain ⟨pv, hpv⟩ : ∃ pv, p (⟨y0, ⟨y1, y2, y3, y4, y5, y6, y7, y8⟩⟩ : S32) = pv := ⟨_, rfl⟩
 have HQ := ak HQ0
 clear HQ0
 simp only [hpv] at HQ
 unfold ltStep at hstep
 simp only [hpv] at hstep
 obtain ⟨hcb_0, hcb_1, hcb_2, hcb_3, hcb_4, hcb_5, hcb_6, hcb_7, hcb_8, hfb_0, hfb_1, hfb_2, hfb_3, hfb_4, hfb_5, hfb_6, hfb_7, hfb_8⟩ := bC9 BB
 have e1 : wrap64 (x15 + 1) = x15 + 1 := by have := HX.out; unfold wrap64; omega
 cases pv with
 | false =>
  skip;{
 have HS2 := ak (show latestM p q (l0.take (i + 1)) = ((⟨b0, ⟨b1, b2, b3, b4, b5, b6, b7, b8⟩⟩ : S32), fd) by rw [hstep]; rfl)
 clear hstep hpv
 go_wp2_with (first | ((with_reducible refine gate_dst (N := 11) rfl ?_); refine b9 11 ?_; intro gx hg w7 hbox hb; replace NGX := ak (nl hg (bG BG)); replace NBX := ak (nl hg (bG BB)); replace NXG := ak (ng hg (bG BG)); replace NXB := ak (ng hg (bG BB)); replace BG := bB BG hb; replace BB := bB BB hb; replace BX := ak (hbox); replace GX := ak (bz hg (lG HB)); replace HB := lB HB hb; replace hx103_0 := clb hb hx103_0; replace hx103_1 := clb hb hx103_1; replace hx103_2 := clb hb hx103_2; replace hx103_3 := clb hb hx103_3; replace hx103_4 := clb hb hx103_4; replace hx103_5 := clb hb hx103_5; replace hx103_6 := clb hb hx103_6; replace hx103_7 := clb hb hx103_7; replace hx103_8 := clb hb hx103_8; clear hb hbox hg; obtain ⟨hcx_0, hcx_1, hcx_2, hcx_3, hcx_4, hcx_5, hcx_6, hcx_7, hcx_8, hfx_0, hfx_1, hfx_2, hfx_3, hfx_4, hfx_5, hfx_6, hfx_7, hfx_8⟩ := bC9 BX; skip) | (go_at_call 105; refine (HQ.out _ (lT HB (gC GX gN))).mono ?_; rintro e w8 ⟨rfl, hb⟩; replace BG := ak (blk_below (bT BG (nC NGX nN)) hb); replace BB := ak (blk_below (bT BB (nC NBX nN)) hb); replace HB := ak (below_step (lT HB (gC GX gN)) hb); replace BX := ak (blk_below (bW (r := #[.int .i64 y0, .int .i64 y1, .int .i64 y2, .int .i64 y3, .int .i64 y4, .int .i64 y5, .string y6, .string y7, .string y8]) BX) hb); clear hb; obtain ⟨hcy_0, hcy_1, hcy_2, hcy_3, hcy_4, hcy_5, hcy_6, hcy_7, hcy_8, hfy_0, hfy_1, hfy_2, hfy_3, hfy_4, hfy_5, hfy_6, hfy_7, hfy_8⟩ := bC9 BX; obtain ⟨hcz_0, hcz_1, hcz_2, hcz_3, hcz_4, hcz_5, hcz_6, hcz_7, hcz_8, hfz_0, hfz_1, hfz_2, hfz_3, hfz_4, hfz_5, hfz_6, hfz_7, hfz_8⟩ := bC9 BB; skip))
 go_roundg k1
 case measure => omega
 case rel => exact ⟨x15 + 1, i + 1, by rw [HS2.out], by first | rfl | (rw [e1]) | (simp [e1]; done), ⟨by have := HX.out; omega, by have := HX.out; omega⟩, BG, by rw [HS2.out]; exact BB, HB⟩
 }
 | true =>
  skip;{
 cases fd with
 | false =>
  skip;{
 have HS2 := ak (show latestM p q (l0.take (i + 1)) = ((⟨y0, ⟨y1, y2, y3, y4, y5, y6, y7, y8⟩⟩ : S32), true) by rw [hstep]; rfl)
 clear hstep hpv
 go_wp2_with (first | ((with_reducible refine gate_dst (N := 11) rfl ?_); refine b9 11 ?_; intro gx hg w7 hbox hb; replace NGX := ak (nl hg (bG BG)); replace NBX := ak (nl hg (bG BB)); replace NXG := ak (ng hg (bG BG)); replace NXB := ak (ng hg (bG BB)); replace BG := bB BG hb; replace BB := bB BB hb; replace BX := ak (hbox); replace GX := ak (bz hg (lG HB)); replace HB := lB HB hb; replace hx103_0 := clb hb hx103_0; replace hx103_1 := clb hb hx103_1; replace hx103_2 := clb hb hx103_2; replace hx103_3 := clb hb hx103_3; replace hx103_4 := clb hb hx103_4; replace hx103_5 := clb hb hx103_5; replace hx103_6 := clb hb hx103_6; replace hx103_7 := clb hb hx103_7; replace hx103_8 := clb hb hx103_8; clear hb hbox hg; obtain ⟨hcx_0, hcx_1, hcx_2, hcx_3, hcx_4, hcx_5, hcx_6, hcx_7, hcx_8, hfx_0, hfx_1, hfx_2, hfx_3, hfx_4, hfx_5, hfx_6, hfx_7, hfx_8⟩ := bC9 BX; skip) | (go_at_call 105; refine (HQ.out _ (lT HB (gC GX gN))).mono ?_; rintro e w8 ⟨rfl, hb⟩; replace BG := ak (blk_below (bT BG (nC NGX nN)) hb); replace BB := ak (blk_below (bT BB (nC NBX nN)) hb); replace HB := ak (below_step (lT HB (gC GX gN)) hb); replace BX := ak (blk_below (bW (r := #[.int .i64 y0, .int .i64 y1, .int .i64 y2, .int .i64 y3, .int .i64 y4, .int .i64 y5, .string y6, .string y7, .string y8]) BX) hb); clear hb; obtain ⟨hcy_0, hcy_1, hcy_2, hcy_3, hcy_4, hcy_5, hcy_6, hcy_7, hcy_8, hfy_0, hfy_1, hfy_2, hfy_3, hfy_4, hfy_5, hfy_6, hfy_7, hfy_8⟩ := bC9 BX; obtain ⟨hcz_0, hcz_1, hcz_2, hcz_3, hcz_4, hcz_5, hcz_6, hcz_7, hcz_8, hfz_0, hfz_1, hfz_2, hfz_3, hfz_4, hfz_5, hfz_6, hfz_7, hfz_8⟩ := bC9 BB; skip))
 go_roundg k1
 case measure => omega
 case rel => exact ⟨x15 + 1, i + 1, by rw [HS2.out], by first | rfl | (rw [e1]) | (simp [e1]; done), ⟨by have := HX.out; omega, by have := HX.out; omega⟩, ⟨bT BG (nC NGB nN)⟩, by rw [HS2.out]; exact ⟨bW BB⟩, ⟨lT HB (gC GB gN)⟩⟩
 }
 | true =>
  skip;{
 obtain ⟨qv, hqv⟩ : ∃ qv, q (⟨b0, ⟨b1, b2, b3, b4, b5, b6, b7, b8⟩⟩ : S32) (⟨y0, ⟨y1, y2, y3, y4, y5, y6, y7, y8⟩⟩ : S32) = qv := ⟨_, rfl⟩
 have HQV := ak hqv
 simp only [hqv] at hstep
 clear hqv hpv
 cases qv with
 | false =>
  skip;{
 have HS2 := ak (show latestM p q (l0.take (i + 1)) = ((⟨b0, ⟨b1, b2, b3, b4, b5, b6, b7, b8⟩⟩ : S32), true) by rw [hstep]; rfl)
 clear hstep
 go_wp2_with (first | ((with_reducible refine gate_dst (N := 11) rfl ?_); refine b9 11 ?_; intro gx hg w7 hbox hb; replace NGX := ak (nl hg (bG BG)); replace NBX := ak (nl hg (bG BB)); replace NXG := ak (ng hg (bG BG)); replace NXB := ak (ng hg (bG BB)); replace BG := bB BG hb; replace BB := bB BB hb; replace BX := ak (hbox); replace GX := ak (bz hg (lG HB)); replace HB := lB HB hb; replace hx103_0 := clb hb hx103_0; replace hx103_1 := clb hb hx103_1; replace hx103_2 := clb hb hx103_2; replace hx103_3 := clb hb hx103_3; replace hx103_4 := clb hb hx103_4; replace hx103_5 := clb hb hx103_5; replace hx103_6 := clb hb hx103_6; replace hx103_7 := clb hb hx103_7; replace hx103_8 := clb hb hx103_8; clear hb hbox hg; obtain ⟨hcx_0, hcx_1, hcx_2, hcx_3, hcx_4, hcx_5, hcx_6, hcx_7, hcx_8, hfx_0, hfx_1, hfx_2, hfx_3, hfx_4, hfx_5, hfx_6, hfx_7, hfx_8⟩ := bC9 BX; skip) | (go_at_call 105; refine (HQ.out _ (lT HB (gC GX gN))).mono ?_; rintro e w8 ⟨rfl, hb⟩; replace BG := ak (blk_below (bT BG (nC NGX nN)) hb); replace BB := ak (blk_below (bT BB (nC NBX nN)) hb); replace HB := ak (below_step (lT HB (gC GX gN)) hb); replace BX := ak (blk_below (bW (r := #[.int .i64 y0, .int .i64 y1, .int .i64 y2, .int .i64 y3, .int .i64 y4, .int .i64 y5, .string y6, .string y7, .string y8]) BX) hb); clear hb; obtain ⟨hcy_0, hcy_1, hcy_2, hcy_3, hcy_4, hcy_5, hcy_6, hcy_7, hcy_8, hfy_0, hfy_1, hfy_2, hfy_3, hfy_4, hfy_5, hfy_6, hfy_7, hfy_8⟩ := bC9 BX; obtain ⟨hcz_0, hcz_1, hcz_2, hcz_3, hcz_4, hcz_5, hcz_6, hcz_7, hcz_8, hfz_0, hfz_1, hfz_2, hfz_3, hfz_4, hfz_5, hfz_6, hfz_7, hfz_8⟩ := bC9 BB; skip) | (go_at_call 107; refine (HP2.out (⟨b0, ⟨b1, b2, b3, b4, b5, b6, b7, b8⟩⟩ : S32) (⟨y0, ⟨y1, y2, y3, y4, y5, y6, y7, y8⟩⟩ : S32) _).mono ?_; rintro e w9 ⟨rfl, hb⟩; have hqv := HQV.out; (try simp only [hqv]); replace BG := bB BG hb; replace BB := bB BB hb; replace HB := lB HB hb; replace BX := bB BX hb; clear hb; obtain ⟨hcv_0, hcv_1, hcv_2, hcv_3, hcv_4, hcv_5, hcv_6, hcv_7, hcv_8, hfv_0, hfv_1, hfv_2, hfv_3, hfv_4, hfv_5, hfv_6, hfv_7, hfv_8⟩ := bC9 BX; obtain ⟨hcu_0, hcu_1, hcu_2, hcu_3, hcu_4, hcu_5, hcu_6, hcu_7, hcu_8, hfu_0, hfu_1, hfu_2, hfu_3, hfu_4, hfu_5, hfu_6, hfu_7, hfu_8⟩ := bC9 BB; skip))
 go_roundg k1
 case measure => omega
 case rel => exact ⟨x15 + 1, i + 1, by rw [HS2.out], by first | rfl | (rw [e1]) | (simp [e1]; done), ⟨by have := HX.out; omega, by have := HX.out; omega⟩, BG, by rw [HS2.out]; exact BB, HB⟩
 }
 | true =>
  skip;{
 have HS2 := ak (show latestM p q (l0.take (i + 1)) = ((⟨y0, ⟨y1, y2, y3, y4, y5, y6, y7, y8⟩⟩ : S32), true) by rw [hstep]; rfl)
 clear hstep
 go_wp2_with (first | ((with_reducible refine gate_dst (N := 11) rfl ?_); refine b9 11 ?_; intro gx hg w7 hbox hb; replace NGX := ak (nl hg (bG BG)); replace NBX := ak (nl hg (bG BB)); replace NXG := ak (ng hg (bG BG)); replace NXB := ak (ng hg (bG BB)); replace BG := bB BG hb; replace BB := bB BB hb; replace BX := ak (hbox); replace GX := ak (bz hg (lG HB)); replace HB := lB HB hb; replace hx103_0 := clb hb hx103_0; replace hx103_1 := clb hb hx103_1; replace hx103_2 := clb hb hx103_2; replace hx103_3 := clb hb hx103_3; replace hx103_4 := clb hb hx103_4; replace hx103_5 := clb hb hx103_5; replace hx103_6 := clb hb hx103_6; replace hx103_7 := clb hb hx103_7; replace hx103_8 := clb hb hx103_8; clear hb hbox hg; obtain ⟨hcx_0, hcx_1, hcx_2, hcx_3, hcx_4, hcx_5, hcx_6, hcx_7, hcx_8, hfx_0, hfx_1, hfx_2, hfx_3, hfx_4, hfx_5, hfx_6, hfx_7, hfx_8⟩ := bC9 BX; skip) | (go_at_call 105; refine (HQ.out _ (lT HB (gC GX gN))).mono ?_; rintro e w8 ⟨rfl, hb⟩; replace BG := ak (blk_below (bT BG (nC NGX nN)) hb); replace BB := ak (blk_below (bT BB (nC NBX nN)) hb); replace HB := ak (below_step (lT HB (gC GX gN)) hb); replace BX := ak (blk_below (bW (r := #[.int .i64 y0, .int .i64 y1, .int .i64 y2, .int .i64 y3, .int .i64 y4, .int .i64 y5, .string y6, .string y7, .string y8]) BX) hb); clear hb; obtain ⟨hcy_0, hcy_1, hcy_2, hcy_3, hcy_4, hcy_5, hcy_6, hcy_7, hcy_8, hfy_0, hfy_1, hfy_2, hfy_3, hfy_4, hfy_5, hfy_6, hfy_7, hfy_8⟩ := bC9 BX; obtain ⟨hcz_0, hcz_1, hcz_2, hcz_3, hcz_4, hcz_5, hcz_6, hcz_7, hcz_8, hfz_0, hfz_1, hfz_2, hfz_3, hfz_4, hfz_5, hfz_6, hfz_7, hfz_8⟩ := bC9 BB; skip) | (go_at_call 107; refine (HP2.out (⟨b0, ⟨b1, b2, b3, b4, b5, b6, b7, b8⟩⟩ : S32) (⟨y0, ⟨y1, y2, y3, y4, y5, y6, y7, y8⟩⟩ : S32) _).mono ?_; rintro e w9 ⟨rfl, hb⟩; have hqv := HQV.out; (try simp only [hqv]); replace BG := bB BG hb; replace BB := bB BB hb; replace HB := lB HB hb; replace BX := bB BX hb; clear hb; obtain ⟨hcv_0, hcv_1, hcv_2, hcv_3, hcv_4, hcv_5, hcv_6, hcv_7, hcv_8, hfv_0, hfv_1, hfv_2, hfv_3, hfv_4, hfv_5, hfv_6, hfv_7, hfv_8⟩ := bC9 BX; obtain ⟨hcu_0, hcu_1, hcu_2, hcu_3, hcu_4, hcu_5, hcu_6, hcu_7, hcu_8, hfu_0, hfu_1, hfu_2, hfu_3, hfu_4, hfu_5, hfu_6, hfu_7, hfu_8⟩ := bC9 BB; skip))
 go_roundg k1
 case measure => omega
 case rel => exact ⟨x15 + 1, i + 1, by rw [HS2.out], by first | rfl | (rw [e1]) | (simp [e1]; done), ⟨by have := HX.out; omega, by have := HX.out; omega⟩, ⟨bT BG (nC NGB nN)⟩, by rw [HS2.out]; exact ⟨bW BB⟩, ⟨lT HB (gC GB gN)⟩⟩
 }
 }
 }
 }
 }
def abM (k v : Int) (x : S32) : Bool := (x.f1.f0 == k) && (x.f1.f1 == v)
theorem about_calls (a0 a1 a2 a3 a4 : Int) (a5 a6 a7 : ByteArray) (k v : Int) (W : World) :
  Calls Try.prog 106 #[.agg #[.int .i64 a0, .int .i64 a1, .int .i64 a2, .int .i64 a3, .int .i64 a4, .string a5, .string a6, .string a7], .int .i64 k, .int .i64 v] W fun e W' => e = .returned (.bool ((a0 == k) && (a1 == v))) ∧ Below W.heap.size W W' := by
 have hu23 := Try.underlying23
 have HA := ak (fun o => below_alloc (Below.refl W.heap.size W) o)
 by_cases c : a0 = k
 {
 subst c
 go_enter Try.func106, Try.ntmps106
 go_wp2
 go_ret
 exact ⟨by simp, HA.out _⟩
 }
 {
 have cb : (a0 == k) = false := beq_eq_false_iff_ne.mpr c
 go_enter Try.func106, Try.ntmps106
 go_wp2
 go_ret
 exact ⟨by simp [cb], HA.out _⟩
 }
theorem clo_drop (gv : Nat) (v : Int) (x : S32) (W : World) (hb : W.heap[gv]? = some (.cells #[.int .i64 v] 3 (0, 0))) :
  Calls Try.prog 105 #[.agg #[.int .i64 x.f1.f0, .int .i64 x.f1.f1, .int .i64 x.f1.f2, .int .i64 x.f1.f3, .int .i64 x.f1.f4, .string x.f1.f5, .string x.f1.f6, .string x.f1.f7], .pointer (some ⟨gv, 0, none⟩)] W fun e W' => e = .returned (.bool (abM 2 v x)) ∧ Below W.heap.size W W' := by
 have hu23 := Try.underlying23
 have h0 : ∀ o, (W.alloc o).cell? ⟨gv, 0, none⟩ = some (.int .i64 v) := fun o => bc (ak (blk_alloc hb o)) 0
 have HA := ak (fun o => below_alloc (Below.refl W.heap.size W) o)
 have HC := ak (fun (a0 a1 a2 a3 a4 : Int) (a5 a6 a7 : ByteArray) (W : World) => about_calls a0 a1 a2 a3 a4 a5 a6 a7 2 v W)
 clear hb
 go_enter Try.func105, Try.ntmps105
 go_wp2_with (go_at_call 106; refine (HC.out _ _ _ _ _ _ _ _ _).mono ?_; rintro e w8 ⟨rfl, hb⟩)
 go_ret
 exact ⟨rfl, below_step (HA.out _) hb⟩
theorem clo_box (gv : Nat) (v : Int) (x : S32) (W : World) (hb : W.heap[gv]? = some (.cells #[.int .i64 v] 3 (0, 0))) :
  Calls Try.prog 108 #[.agg #[.int .i64 x.f1.f0, .int .i64 x.f1.f1, .int .i64 x.f1.f2, .int .i64 x.f1.f3, .int .i64 x.f1.f4, .string x.f1.f5, .string x.f1.f6, .string x.f1.f7], .pointer (some ⟨gv, 0, none⟩)] W fun e W' => e = .returned (.bool (abM 1 v x)) ∧ Below W.heap.size W W' := by
 have hu23 := Try.underlying23
 have h0 : ∀ o, (W.alloc o).cell? ⟨gv, 0, none⟩ = some (.int .i64 v) := fun o => bc (ak (blk_alloc hb o)) 0
 have HA := ak (fun o => below_alloc (Below.refl W.heap.size W) o)
 have HC := ak (fun (a0 a1 a2 a3 a4 : Int) (a5 a6 a7 : ByteArray) (W : World) => about_calls a0 a1 a2 a3 a4 a5 a6 a7 1 v W)
 clear hb
 go_enter Try.func108, Try.ntmps108
 go_wp2_with (go_at_call 106; refine (HC.out _ _ _ _ _ _ _ _ _).mono ?_; rintro e w8 ⟨rfl, hb⟩)
 go_ret
 exact ⟨rfl, below_step (HA.out _) hb⟩
def seqQ (x y : S32) : Bool := decide (x.f0 < y.f0)
def nextQ (x y : S32) : Bool := if x.f1.f3 ≠ y.f1.f3 then decide (x.f1.f3 < y.f1.f3) else decide (x.f0 < y.f0)
theorem bySeq_q (x y : S32) (W : World) : Calls Try.prog 107 #[.agg #[.int .i64 x.f0, .int .i64 x.f1.f0, .int .i64 x.f1.f1, .int .i64 x.f1.f2, .int .i64 x.f1.f3, .int .i64 x.f1.f4, .string x.f1.f5, .string x.f1.f6, .string x.f1.f7], .agg #[.int .i64 y.f0, .int .i64 y.f1.f0, .int .i64 y.f1.f1, .int .i64 y.f1.f2, .int .i64 y.f1.f3, .int .i64 y.f1.f4, .string y.f1.f5, .string y.f1.f6, .string y.f1.f7]] W fun e W' => e = .returned (.bool (seqQ x y)) ∧ Below W.heap.size W W' := impl_bySeq.calls x.f0 x.f1.f0 x.f1.f1 x.f1.f2 x.f1.f3 x.f1.f4 x.f1.f5 x.f1.f6 x.f1.f7 y.f0 y.f1.f0 y.f1.f1 y.f1.f2 y.f1.f3 y.f1.f4 y.f1.f5 y.f1.f6 y.f1.f7 (seqQ x y) W rfl
theorem byNext_q (x y : S32) (W : World) : Calls Try.prog 109 #[.agg #[.int .i64 x.f0, .int .i64 x.f1.f0, .int .i64 x.f1.f1, .int .i64 x.f1.f2, .int .i64 x.f1.f3, .int .i64 x.f1.f4, .string x.f1.f5, .string x.f1.f6, .string x.f1.f7], .agg #[.int .i64 y.f0, .int .i64 y.f1.f0, .int .i64 y.f1.f1, .int .i64 y.f1.f2, .int .i64 y.f1.f3, .int .i64 y.f1.f4, .string y.f1.f5, .string y.f1.f6, .string y.f1.f7]] W fun e W' => e = .returned (.bool (nextQ x y)) ∧ Below W.heap.size W W' := impl_byNext.calls x.f0 x.f1.f0 x.f1.f1 x.f1.f2 x.f1.f3 x.f1.f4 x.f1.f5 x.f1.f6 x.f1.f7 y.f0 y.f1.f0 y.f1.f1 y.f1.f2 y.f1.f3 y.f1.f4 y.f1.f5 y.f1.f6 y.f1.f7 (nextQ x y) W (by unfold impl_byNext.f nextQ; split <;> simp_all)
theorem latest_box (caps : Array Value) (p : S32 → Bool) (q : S32 → S32 → Bool) (A0 : Option Addr) (c0 : Nat) (l0 : List S32) (w : World) (hr0 : Kd.C k32 w A0 l0.length l0) (hc0 : l0.length ≤ c0)
  (hp : ∀ x, x ∈ l0 → ∀ W, Below w.heap.size w W → Calls Try.prog 108 (#[.agg #[.int .i64 x.f1.f0, .int .i64 x.f1.f1, .int .i64 x.f1.f2, .int .i64 x.f1.f3, .int .i64 x.f1.f4, .string x.f1.f5, .string x.f1.f6, .string x.f1.f7]] ++ caps) W fun e W' => e = .returned (.bool (p x)) ∧ Below W.heap.size W W')
  (hq : ∀ (x y : S32) W, Calls Try.prog 109 #[.agg #[.int .i64 x.f0, .int .i64 x.f1.f0, .int .i64 x.f1.f1, .int .i64 x.f1.f2, .int .i64 x.f1.f3, .int .i64 x.f1.f4, .string x.f1.f5, .string x.f1.f6, .string x.f1.f7], .agg #[.int .i64 y.f0, .int .i64 y.f1.f0, .int .i64 y.f1.f1, .int .i64 y.f1.f2, .int .i64 y.f1.f3, .int .i64 y.f1.f4, .string y.f1.f5, .string y.f1.f6, .string y.f1.f7]] W fun e W' => e = .returned (.bool (q x y)) ∧ Below W.heap.size W W') :
  Calls Try.prog 104 #[.slice A0 l0.length c0, .func (.func 108) #[] caps, .func (.func 109) #[] #[]] w fun e w' => e = .returned (.tuple #[.agg #[.int .i64 (latestM p q l0).1.f0, .int .i64 (latestM p q l0).1.f1.f0, .int .i64 (latestM p q l0).1.f1.f1, .int .i64 (latestM p q l0).1.f1.f2, .int .i64 (latestM p q l0).1.f1.f3, .int .i64 (latestM p q l0).1.f1.f4, .string (latestM p q l0).1.f1.f5, .string (latestM p q l0).1.f1.f6, .string (latestM p q l0).1.f1.f7], .bool (latestM p q l0).2]) ∧ Below w.heap.size w w' := by
 have hu23 := Try.underlying23
 have hu32 := Try.underlying32
 have HR0 := ak hr0
 have HC0 := ak hc0
 have HP := ak hp
 have HP2 := ak hq
 have hm : l0.length ≤ 9223372036854775807 := hr0.2.1
 have HB := ak (Below.refl w.heap.size w)
 clear hr0 hc0 hp hq
 go_enter Try.func104, Try.ntmps104
 go_wp2_with (first | ((with_reducible refine gate_dst (N := 6) rfl ?_); refine b9 6 ?_; intro gg hg w3 hbox hb; replace BG := ak (hbox); replace GG := ak (bz hg (lG HB)); replace HB := lB HB hb; clear hb hbox hg; obtain ⟨hcg_0, hcg_1, hcg_2, hcg_3, hcg_4, hcg_5, hcg_6, hcg_7, hcg_8, hfg_0, hfg_1, hfg_2, hfg_3, hfg_4, hfg_5, hfg_6, hfg_7, hfg_8⟩ := bC9 BG; skip) | ((with_reducible refine gate_dst (N := 8) rfl ?_); refine b9 8 ?_; intro gb hg w5 hbox hb; replace NGB := ak (nl hg (bG BG)); replace BG := bB BG hb; replace BB := ak (hbox); replace GB := ak (bz hg (lG HB)); replace HB := lB HB hb; clear hb hbox hg; obtain ⟨hcb_0, hcb_1, hcb_2, hcb_3, hcb_4, hcb_5, hcb_6, hcb_7, hcb_8, hfb_0, hfb_1, hfb_2, hfb_3, hfb_4, hfb_5, hfb_6, hfb_7, hfb_8⟩ := bC9 BB; skip))
 go_loopg [9, 15] l0.length (fun kq v9 v15 w' => ∃ (x15 : Int) (i : Nat), v9 = .bool (latestM p q (l0.take i)).2 ∧ v15 = .int .i64 x15 ∧ Aside0 (x15 = (i : Int) ∧ kq + i = l0.length) ∧ Aside0 (w'.heap[gg]? = some (.cells #[.int .i64 0, .int .i64 0, .int .i64 0, .int .i64 0, .int .i64 0, .int .i64 0, .string (⟨#[]⟩ : ByteArray), .string (⟨#[]⟩ : ByteArray), .string (⟨#[]⟩ : ByteArray)] 32 (0, 0))) ∧ Aside0 (w'.heap[gb]? = some (.cells #[.int .i64 (latestM p q (l0.take i)).1.f0, .int .i64 (latestM p q (l0.take i)).1.f1.f0, .int .i64 (latestM p q (l0.take i)).1.f1.f1, .int .i64 (latestM p q (l0.take i)).1.f1.f2, .int .i64 (latestM p q (l0.take i)).1.f1.f3, .int .i64 (latestM p q (l0.take i)).1.f1.f4, .string (latestM p q (l0.take i)).1.f1.f5, .string (latestM p q (l0.take i)).1.f1.f6, .string (latestM p q (l0.take i)).1.f1.f7] 32 (0, 0))) ∧ Aside0 (Below w.heap.size w w'))
 case atStart => exact ⟨0, 0, by first | rfl | (simp; done), by first | rfl | (simp; done), ⟨rfl, rfl⟩, ⟨bT BG (nC NGB nN)⟩, ⟨bW BB⟩, ⟨lT HB (gC GB gN)⟩⟩
 case round =>
  skip;{
 clear BG BB HB
 obtain ⟨x15, i, rfl, rfl, HX, BG, BB, HB⟩ := hrel
 obtain ⟨⟨⟨b0, ⟨b1, b2, b3, b4, b5, b6, b7, b8⟩⟩, fd⟩, hst⟩ : ∃ st, latestM p q (l0.take i) = st := ⟨_, rfl⟩
 rw [hst] at BB ⊢
 have HST := ak hst
 clear hst
 simp only at BB ⊢
 cases gk with
 | zero =>
  skip;{
 have c4 : decide (x15 < (l0.length : Int)) = false := decide_eq_false (by have := HX.out; omega)
 have hend : latestM p q l0 = (⟨b0, ⟨b1, b2, b3, b4, b5, b6, b7, b8⟩⟩, fd) := by rw [← HST.out, List.take_of_length_le (by have := HX.out; omega)]
 have HE := ak hend
 clear hend
 obtain ⟨hcg_0, hcg_1, hcg_2, hcg_3, hcg_4, hcg_5, hcg_6, hcg_7, hcg_8, hfg_0, hfg_1, hfg_2, hfg_3, hfg_4, hfg_5, hfg_6, hfg_7, hfg_8⟩ := bC9 BG
 obtain ⟨hcb_0, hcb_1, hcb_2, hcb_3, hcb_4, hcb_5, hcb_6, hcb_7, hcb_8, hfb_0, hfb_1, hfb_2, hfb_3, hfb_4, hfb_5, hfb_6, hfb_7, hfb_8⟩ := bC9 BB
 have hng := NGB.out
 go_wp2
 refine bodyPost_ret (results_ct rfl _ _ gg 32 #[.int .i64 b0, .int .i64 b1, .int .i64 b2, .int .i64 b3, .int .i64 b4, .int .i64 b5, .string b6, .string b7, .string b8] (0, 0) _ rfl (bW BG) Try.underlying32 rfl (by kernel_rfl)) rfl ?_
 exact ⟨by rw [HE.out]; rfl, lT HB (gC GG gN)⟩
 }
 | succ k1 =>
  skip;{
 have c4 : decide (x15 < (l0.length : Int)) = true := decide_eq_true (by have := HX.out; omega)
 have c5 : decide (0 ≤ x15) = true := decide_eq_true (by have := HX.out; omega)
 have hi : i < l0.length := by have := HX.out; omega
 have hstep := latestM_take p q l0 i hi
 rw [HST.out, ← HX.out.1] at hstep
 have hmem : rd_T32 l0 x15 ∈ l0 := by
  rw [HX.out.1]
  unfold rd_T32
  rw [Int.toNat_natCast, List.getD_eq_getElem?_getD, List.getElem?_eq_getElem hi]
  exact List.getElem_mem hi
 have p103 : 0 ≤ (x15 : Int) := by have := HX.out; omega
 have q103 : x15 < (l0.length : Int) := by have := HX.out; omega
 obtain ⟨ad103, e103, hx103_0, hx103_1, hx103_2, hx103_3, hx103_4, hx103_5, hx103_6, hx103_7, hx103_8⟩ := at_T32 HR0.out x15 p103 q103
 cases e103
 replace hx103_0 := clB HB hx103_0
 replace hx103_1 := clB HB hx103_1
 replace hx103_2 := clB HB hx103_2
 replace hx103_3 := clB HB hx103_3
 replace hx103_4 := clB HB hx103_4
 replace hx103_5 := clB HB hx103_5
 replace hx103_6 := clB HB hx103_6
 replace hx103_7 := clB HB hx103_7
 replace hx103_8 := clB HB hx103_8
 replace p103 := eq_true p103
 replace q103 := eq_true q103
 obtain ⟨y, hy⟩ : ∃ y, rd_T32 l0 x15 = y := ⟨_, rfl⟩
 rw [hy] at hmem hstep hx103_0 hx103_1 hx103_2 hx103_3 hx103_4 hx103_5 hx103_6 hx103_7 hx103_8
 have HQ0 := HP.out _ hmem
 clear hy hi hmem
 obtain ⟨y0, ⟨y1, y2, y3, y4, y5, y6, y7, y8⟩⟩ := y
 simp only at hx103_0 hx103_1 hx103_2 hx103_3 hx103_4 hx103_5 hx103_6 hx103_7 hx103_8
 obtain ⟨pv, hpv⟩ : ∃ pv, p (⟨y0, ⟨y1, y2, y3, y4, y5, y6, y7, y8⟩⟩ : S32) = pv := ⟨_, rfl⟩
 have HQ := ak HQ0
 clear HQ0
 simp only [hpv] at HQ
 unfold ltStep at hstep
 simp only [hpv] at hstep
 obtain ⟨hcb_0, hcb_1, hcb_2, hcb_3, hcb_4, hcb_5, hcb_6, hcb_7, hcb_8, hfb_0, hfb_1, hfb_2, hfb_3, hfb_4, hfb_5, hfb_6, hfb_7, hfb_8⟩ := bC9 BB
 have e1 : wrap64 (x15 + 1) = x15 + 1 := by have := HX.out; unfold wrap64; omega
 cases pv with
 | false =>
  skip;{
 have HS2 := ak (show latestM p q (l0.take (i + 1)) = ((⟨b0, ⟨b1, b2, b3, b4, b5, b6, b7, b8⟩⟩ : S32), fd) by rw [hstep]; rfl)
 clear hstep hpv
 go_wp2_with (first | ((with_reducible refine gate_dst (N := 11) rfl ?_); refine b9 11 ?_; intro gx hg w7 hbox hb; replace NGX := ak (nl hg (bG BG)); replace NBX := ak (nl hg (bG BB)); replace NXG := ak (ng hg (bG BG)); replace NXB := ak (ng hg (bG BB)); replace BG := bB BG hb; replace BB := bB BB hb; replace BX := ak (hbox); replace GX := ak (bz hg (lG HB)); replace HB := lB HB hb; replace hx103_0 := clb hb hx103_0; replace hx103_1 := clb hb hx103_1; replace hx103_2 := clb hb hx103_2; replace hx103_3 := clb hb hx103_3; replace hx103_4 := clb hb hx103_4; replace hx103_5 := clb hb hx103_5; replace hx103_6 := clb hb hx103_6; replace hx103_7 := clb hb hx103_7; replace hx103_8 := clb hb hx103_8; clear hb hbox hg; obtain ⟨hcx_0, hcx_1, hcx_2, hcx_3, hcx_4, hcx_5, hcx_6, hcx_7, hcx_8, hfx_0, hfx_1, hfx_2, hfx_3, hfx_4, hfx_5, hfx_6, hfx_7, hfx_8⟩ := bC9 BX; skip) | (go_at_call 108; refine (HQ.out _ (lT HB (gC GX gN))).mono ?_; rintro e w8 ⟨rfl, hb⟩; replace BG := ak (blk_below (bT BG (nC NGX nN)) hb); replace BB := ak (blk_below (bT BB (nC NBX nN)) hb); replace HB := ak (below_step (lT HB (gC GX gN)) hb); replace BX := ak (blk_below (bW (r := #[.int .i64 y0, .int .i64 y1, .int .i64 y2, .int .i64 y3, .int .i64 y4, .int .i64 y5, .string y6, .string y7, .string y8]) BX) hb); clear hb; obtain ⟨hcy_0, hcy_1, hcy_2, hcy_3, hcy_4, hcy_5, hcy_6, hcy_7, hcy_8, hfy_0, hfy_1, hfy_2, hfy_3, hfy_4, hfy_5, hfy_6, hfy_7, hfy_8⟩ := bC9 BX; obtain ⟨hcz_0, hcz_1, hcz_2, hcz_3, hcz_4, hcz_5, hcz_6, hcz_7, hcz_8, hfz_0, hfz_1, hfz_2, hfz_3, hfz_4, hfz_5, hfz_6, hfz_7, hfz_8⟩ := bC9 BB; skip))
 go_roundg k1
 case measure => omega
 case rel => exact ⟨x15 + 1, i + 1, by rw [HS2.out], by first | rfl | (rw [e1]) | (simp [e1]; done), ⟨by have := HX.out; omega, by have := HX.out; omega⟩, BG, by rw [HS2.out]; exact BB, HB⟩
 }
 | true =>
  skip;{
 cases fd with
 | false =>
  skip;{
 have HS2 := ak (show latestM p q (l0.take (i + 1)) = ((⟨y0, ⟨y1, y2, y3, y4, y5, y6, y7, y8⟩⟩ : S32), true) by rw [hstep]; rfl)
 clear hstep hpv
 go_wp2_with (first | ((with_reducible refine gate_dst (N := 11) rfl ?_); refine b9 11 ?_; intro gx hg w7 hbox hb; replace NGX := ak (nl hg (bG BG)); replace NBX := ak (nl hg (bG BB)); replace NXG := ak (ng hg (bG BG)); replace NXB := ak (ng hg (bG BB)); replace BG := bB BG hb; replace BB := bB BB hb; replace BX := ak (hbox); replace GX := ak (bz hg (lG HB)); replace HB := lB HB hb; replace hx103_0 := clb hb hx103_0; replace hx103_1 := clb hb hx103_1; replace hx103_2 := clb hb hx103_2; replace hx103_3 := clb hb hx103_3; replace hx103_4 := clb hb hx103_4; replace hx103_5 := clb hb hx103_5; replace hx103_6 := clb hb hx103_6; replace hx103_7 := clb hb hx103_7; replace hx103_8 := clb hb hx103_8; clear hb hbox hg; obtain ⟨hcx_0, hcx_1, hcx_2, hcx_3, hcx_4, hcx_5, hcx_6, hcx_7, hcx_8, hfx_0, hfx_1, hfx_2, hfx_3, hfx_4, hfx_5, hfx_6, hfx_7, hfx_8⟩ := bC9 BX; skip) | (go_at_call 108; refine (HQ.out _ (lT HB (gC GX gN))).mono ?_; rintro e w8 ⟨rfl, hb⟩; replace BG := ak (blk_below (bT BG (nC NGX nN)) hb); replace BB := ak (blk_below (bT BB (nC NBX nN)) hb); replace HB := ak (below_step (lT HB (gC GX gN)) hb); replace BX := ak (blk_below (bW (r := #[.int .i64 y0, .int .i64 y1, .int .i64 y2, .int .i64 y3, .int .i64 y4, .int .i64 y5, .string y6, .string y7, .string y8]) BX) hb); clear hb; obtain ⟨hcy_0, hcy_1, hcy_2, hcy_3, hcy_4, hcy_5, hcy_6, hcy_7, hcy_8, hfy_0, hfy_1, hfy_2, hfy_3, hfy_4, hfy_5, hfy_6, hfy_7, hfy_8⟩ := bC9 BX; obtain ⟨hcz_0, hcz_1, hcz_2, hcz_3, hcz_4, hcz_5, hcz_6, hcz_7, hcz_8, hfz_0, hfz_1, hfz_2, hfz_3, hfz_4, hfz_5, hfz_6, hfz_7, hfz_8⟩ := bC9 BB; skip))
 go_roundg k1
 case measure => omega
 case rel => exact ⟨x15 + 1, i + 1, by rw [HS2.out], by first | rfl | (rw [e1]) | (simp [e1]; done), ⟨by have := HX.out; omega, by have := HX.out; omega⟩, ⟨bT BG (nC NGB nN)⟩, by rw [HS2.out]; exact ⟨bW BB⟩, ⟨lT HB (gC GB gN)⟩⟩
 }
 | true =>
  skip;{
 obtain ⟨qv, hqv⟩ : ∃ qv, q (⟨b0, ⟨b1, b2, b3, b4, b5, b6, b7, b8⟩⟩ : S32) (⟨y0, ⟨y1, y2, y3, y4, y5, y6, y7, y8⟩⟩ : S32) = qv := ⟨_, rfl⟩
 have HQV := ak hqv
 simp only [hqv] at hstep
 clear hqv hpv
 cases qv with
 | false =>
  skip;{
 have HS2 := ak (show latestM p q (l0.take (i + 1)) = ((⟨b0, ⟨b1, b2, b3, b4, b5, b6, b7, b8⟩⟩ : S32), true) by rw [hstep]; rfl)
 clear hstep
 go_wp2_with (first | ((with_reducible refine gate_dst (N := 11) rfl ?_); refine b9 11 ?_; intro gx hg w7 hbox hb; replace NGX := ak (nl hg (bG BG)); replace NBX := ak (nl hg (bG BB)); replace NXG := ak (ng hg (bG BG)); replace NXB := ak (ng hg (bG BB)); replace BG := bB BG hb; replace BB := bB BB hb; replace BX := ak (hbox); replace GX := ak (bz hg (lG HB)); replace HB := lB HB hb; replace hx103_0 := clb hb hx103_0; replace hx103_1 := clb hb hx103_1; replace hx103_2 := clb hb hx103_2; replace hx103_3 := clb hb hx103_3; replace hx103_4 := clb hb hx103_4; replace hx103_5 := clb hb hx103_5; replace hx103_6 := clb hb hx103_6; replace hx103_7 := clb hb hx103_7; replace hx103_8 := clb hb hx103_8; clear hb hbox hg; obtain ⟨hcx_0, hcx_1, hcx_2, hcx_3, hcx_4, hcx_5, hcx_6, hcx_7, hcx_8, hfx_0, hfx_1, hfx_2, hfx_3, hfx_4, hfx_5, hfx_6, hfx_7, hfx_8⟩ := bC9 BX; skip) | (go_at_call 108; refine (HQ.out _ (lT HB (gC GX gN))).mono ?_; rintro e w8 ⟨rfl, hb⟩; replace BG := ak (blk_below (bT BG (nC NGX nN)) hb); replace BB := ak (blk_below (bT BB (nC NBX nN)) hb); replace HB := ak (below_step (lT HB (gC GX gN)) hb); replace BX := ak (blk_below (bW (r := #[.int .i64 y0, .int .i64 y1, .int .i64 y2, .int .i64 y3, .int .i64 y4, .int .i64 y5, .string y6, .string y7, .string y8]) BX) hb); clear hb; obtain ⟨hcy_0, hcy_1, hcy_2, hcy_3, hcy_4, hcy_5, hcy_6, hcy_7, hcy_8, hfy_0, hfy_1, hfy_2, hfy_3, hfy_4, hfy_5, hfy_6, hfy_7, hfy_8⟩ := bC9 BX; obtain ⟨hcz_0, hcz_1, hcz_2, hcz_3, hcz_4, hcz_5, hcz_6, hcz_7, hcz_8, hfz_0, hfz_1, hfz_2, hfz_3, hfz_4, hfz_5, hfz_6, hfz_7, hfz_8⟩ := bC9 BB; skip) | (go_at_call 109; refine (HP2.out (⟨b0, ⟨b1, b2, b3, b4, b5, b6, b7, b8⟩⟩ : S32) (⟨y0, ⟨y1, y2, y3, y4, y5, y6, y7, y8⟩⟩ : S32) _).mono ?_; rintro e w9 ⟨rfl, hb⟩; have hqv := HQV.out; (try simp only [hqv]); replace BG := bB BG hb; replace BB := bB BB hb; replace HB := lB HB hb; replace BX := bB BX hb; clear hb; obtain ⟨hcv_0, hcv_1, hcv_2, hcv_3, hcv_4, hcv_5, hcv_6, hcv_7, hcv_8, hfv_0, hfv_1, hfv_2, hfv_3, hfv_4, hfv_5, hfv_6, hfv_7, hfv_8⟩ := bC9 BX; obtain ⟨hcu_0, hcu_1, hcu_2, hcu_3, hcu_4, hcu_5, hcu_6, hcu_7, hcu_8, hfu_0, hfu_1, hfu_2, hfu_3, hfu_4, hfu_5, hfu_6, hfu_7, hfu_8⟩ := bC9 BB; skip))
 go_roundg k1
 case measure => omega
 case rel => exact ⟨x15 + 1, i + 1, by rw [HS2.out], by first | rfl | (rw [e1]) | (simp [e1]; done), ⟨by have := HX.out; omega, by have := HX.out; omega⟩, BG, by rw [HS2.out]; exact BB, HB⟩
 }
 | true =>
  skip;{
 have HS2 := ak (show latestM p q (l0.take (i + 1)) = ((⟨y0, ⟨y1, y2, y3, y4, y5, y6, y7, y8⟩⟩ : S32), true) by rw [hstep]; rfl)
 clear hstep
 go_wp2_with (first | ((with_reducible refine gate_dst (N := 11) rfl ?_); refine b9 11 ?_; intro gx hg w7 hbox hb; replace NGX := ak (nl hg (bG BG)); replace NBX := ak (nl hg (bG BB)); replace NXG := ak (ng hg (bG BG)); replace NXB := ak (ng hg (bG BB)); replace BG := bB BG hb; replace BB := bB BB hb; replace BX := ak (hbox); replace GX := ak (bz hg (lG HB)); replace HB := lB HB hb; replace hx103_0 := clb hb hx103_0; replace hx103_1 := clb hb hx103_1; replace hx103_2 := clb hb hx103_2; replace hx103_3 := clb hb hx103_3; replace hx103_4 := clb hb hx103_4; replace hx103_5 := clb hb hx103_5; replace hx103_6 := clb hb hx103_6; replace hx103_7 := clb hb hx103_7; replace hx103_8 := clb hb hx103_8; clear hb hbox hg; obtain ⟨hcx_0, hcx_1, hcx_2, hcx_3, hcx_4, hcx_5, hcx_6, hcx_7, hcx_8, hfx_0, hfx_1, hfx_2, hfx_3, hfx_4, hfx_5, hfx_6, hfx_7, hfx_8⟩ := bC9 BX; skip) | (go_at_call 108; refine (HQ.out _ (lT HB (gC GX gN))).mono ?_; rintro e w8 ⟨rfl, hb⟩; replace BG := ak (blk_below (bT BG (nC NGX nN)) hb); replace BB := ak (blk_below (bT BB (nC NBX nN)) hb); replace HB := ak (below_step (lT HB (gC GX gN)) hb); replace BX := ak (blk_below (bW (r := #[.int .i64 y0, .int .i64 y1, .int .i64 y2, .int .i64 y3, .int .i64 y4, .int .i64 y5, .string y6, .string y7, .string y8]) BX) hb); clear hb; obtain ⟨hcy_0, hcy_1, hcy_2, hcy_3, hcy_4, hcy_5, hcy_6, hcy_7, hcy_8, hfy_0, hfy_1, hfy_2, hfy_3, hfy_4, hfy_5, hfy_6, hfy_7, hfy_8⟩ := bC9 BX; obtain ⟨hcz_0, hcz_1, hcz_2, hcz_3, hcz_4, hcz_5, hcz_6, hcz_7, hcz_8, hfz_0, hfz_1, hfz_2, hfz_3, hfz_4, hfz_5, hfz_6, hfz_7, hfz_8⟩ := bC9 BB; skip) | (go_at_call 109; refine (HP2.out (⟨b0, ⟨b1, b2, b3, b4, b5, b6, b7, b8⟩⟩ : S32) (⟨y0, ⟨y1, y2, y3, y4, y5, y6, y7, y8⟩⟩ : S32) _).mono ?_; rintro e w9 ⟨rfl, hb⟩; have hqv := HQV.out; (try simp only [hqv]); replace BG := bB BG hb; replace BB := bB BB hb; replace HB := lB HB hb; replace BX := bB BX hb; clear hb; obtain ⟨hcv_0, hcv_1, hcv_2, hcv_3, hcv_4, hcv_5, hcv_6, hcv_7, hcv_8, hfv_0, hfv_1, hfv_2, hfv_3, hfv_4, hfv_5, hfv_6, hfv_7, hfv_8⟩ := bC9 BX; obtain ⟨hcu_0, hcu_1, hcu_2, hcu_3, hcu_4, hcu_5, hcu_6, hcu_7, hcu_8, hfu_0, hfu_1, hfu_2, hfu_3, hfu_4, hfu_5, hfu_6, hfu_7, hfu_8⟩ := bC9 BB; skip))
 go_roundg k1
 case measure => omega
 case rel => exact ⟨x15 + 1, i + 1, by rw [HS2.out], by first | rfl | (rw [e1]) | (simp [e1]; done), ⟨by have := HX.out; omega, by have := HX.out; omega⟩, ⟨bT BG (nC NGB nN)⟩, by rw [HS2.out]; exact ⟨bW BB⟩, ⟨lT HB (gC GB gN)⟩⟩
 }
 }
 }
 }
 }
def impl_boxThere.f (l0 : List S32) (a1 : Int) : Option (Int × Int × Int × Int × Int × Int × ByteArray × ByteArray × ByteArray × Bool) := some (if (latestM (abM 2 a1) seqQ l0).2 = true then (0, 0, 0, 0, 0, 0, (⟨#[]⟩ : ByteArray), (⟨#[]⟩ : ByteArray), (⟨#[]⟩ : ByteArray), false) else ((latestM (abM 1 a1) nextQ l0).1.f0, (latestM (abM 1 a1) nextQ l0).1.f1.f0, (latestM (abM 1 a1) nextQ l0).1.f1.f1, (latestM (abM 1 a1) nextQ l0).1.f1.f2, (latestM (abM 1 a1) nextQ l0).1.f1.f3, (latestM (abM 1 a1) nextQ l0).1.f1.f4, (latestM (abM 1 a1) nextQ l0).1.f1.f5, (latestM (abM 1 a1) nextQ l0).1.f1.f6, (latestM (abM 1 a1) nextQ l0).1.f1.f7, (latestM (abM 1 a1) nextQ l0).2))
theorem impl_boxThere.calls (A0 : Option Addr) (c0 : Nat) (l0 : List S32) (a1 : Int) (r1 r2 r3 r4 r5 r6 : Int) (r7 r8 r9 : ByteArray) (r10 : Bool) (w : World) (hr0 : Kd.C k32 w A0 l0.length l0) (hc0 : l0.length ≤ c0) (h : impl_boxThere.f l0 a1 = some (r1, r2, r3, r4, r5, r6, r7, r8, r9, r10)) :
  Calls Try.prog 76 #[.slice A0 l0.length c0, .int .i64 a1] w fun e w' => e = .returned (.tuple #[.agg #[.int .i64 r1, .int .i64 r2, .int .i64 r3, .int .i64 r4, .int .i64 r5, .int .i64 r6, .string r7, .string r8, .string r9], .bool r10]) ∧ Below w.heap.size w w' := by
 have hu23 := Try.underlying23
 have hu32 := Try.underlying32
 have hmf : ∀ (fn : Fn) (first cap : Array Value) (w : World), (Instr.makeFunc fn first cap).run Try.prog w = .ok (.func fn first cap) w := fun _ _ _ _ => rfl
 have HR0 := ak hr0
 have HC0 := ak hc0
 have HB := ak (Below.refl w.heap.size w)
 clear hr0 hc0
 replace h := Option.some.inj h
 obtain ⟨⟨⟨d0, ⟨d1, d2, d3, d4, d5, d6, d7, d8⟩⟩, dv⟩, hd⟩ : ∃ d, latestM (abM 2 a1) seqQ l0 = d := ⟨_, rfl⟩
 rw [hd] at h
 have HD := ak hd
 clear hd
 cases dv with
 | true =>
  skip;{
 rw [if_pos rfl] at h
 simp only [Prod.mk.injEq] at h
 obtain ⟨rfl, rfl, rfl, rfl, rfl, rfl, rfl, rfl, rfl, rfl⟩ := h
 go_enter Try.func76, Try.ntmps76
 go_wp2_with (first | ((with_reducible refine gate_dst (N := 3) rfl ?_); refine bx 3 #[.int .i64 a1] 3 ?_; intro gv hg w3 hbox hb; replace BV := ak (hbox); replace GV := ak (bz hg (lG HB)); replace HB := lB HB hb; clear hb hbox hg) | ((with_reducible refine gate_dst (N := 4) rfl ?_); refine b9 4 ?_; intro gg hg w5 hbox hb; replace BV := bB BV hb; replace BG := ak (hbox); replace GG := ak (bz hg (lG HB)); replace HB := lB HB hb; clear hb hbox hg; obtain ⟨hcg_0, hcg_1, hcg_2, hcg_3, hcg_4, hcg_5, hcg_6, hcg_7, hcg_8, hfg_0, hfg_1, hfg_2, hfg_3, hfg_4, hfg_5, hfg_6, hfg_7, hfg_8⟩ := bC9 BG; skip) | ((with_reducible refine gate_callee (f := 104) rfl ?_); refine gl (some 11) Try.func104 #[.slice A0 l0.length c0, .func (.func 105) #[] #[.pointer (some ⟨gv, 0, none⟩)], .func (.func 107) #[] #[]] ?_; refine (latest_drop #[.pointer (some ⟨gv, 0, none⟩)] (abM 2 a1) seqQ A0 c0 l0 _ (Kd.C_below HR0.out (lG HB)) HC0.out (fun x _ W hW => clo_drop gv a1 x W (blk_below (bG BV) hW)) bySeq_q).mono ?_; rintro e w7 ⟨rfl, hb⟩; refine ⟨_, rfl, ?_⟩; replace BV := bB BV hb; replace BG := bB BG hb; replace HB := lB HB hb; have hd := HD.out; (try simp only [hd]); clear hb; obtain ⟨hcl11_0, hcl11_1, hcl11_2, hcl11_3, hcl11_4, hcl11_5, hcl11_6, hcl11_7, hcl11_8, hfl11_0, hfl11_1, hfl11_2, hfl11_3, hfl11_4, hfl11_5, hfl11_6, hfl11_7, hfl11_8⟩ := bC9 BG; skip) | ((with_reducible refine gate_dst (N := 6) rfl ?_); refine b9 6 ?_; intro gi hg w8 hbox hb; replace NVI := ak (nl hg (bG BV)); replace NGI := ak (nl hg (bG BG)); replace BV := bB BV hb; replace BG := bB BG hb; replace BI := ak (hbox); replace GI := ak (bz hg (lG HB)); replace HB := lB HB hb; clear hb hbox hg; have hni := NGI.out; obtain ⟨hci_0, hci_1, hci_2, hci_3, hci_4, hci_5, hci_6, hci_7, hci_8, hfi_0, hfi_1, hfi_2, hfi_3, hfi_4, hfi_5, hfi_6, hfi_7, hfi_8⟩ := bC9 BI; obtain ⟨hch_0, hch_1, hch_2, hch_3, hch_4, hch_5, hch_6, hch_7, hch_8, hfh_0, hfh_1, hfh_2, hfh_3, hfh_4, hfh_5, hfh_6, hfh_7, hfh_8⟩ := bC9 BG; skip))
 refine bodyPost_ret (results_ct rfl _ _ gg 32 #[.int .i64 0, .int .i64 0, .int .i64 0, .int .i64 0, .int .i64 0, .int .i64 0, .string (⟨#[]⟩ : ByteArray), .string (⟨#[]⟩ : ByteArray), .string (⟨#[]⟩ : ByteArray)] (0, 0) _ rfl (bF BG (nC NGI nN)) Try.underlying32 rfl (by kernel_rfl)) rfl ?_
 exact ⟨rfl, by exact lT HB (gC GI (gC GG gN))⟩
 }
 | false =>
  skip;{
 rw [if_neg (by simp)] at h
 simp only [Prod.mk.injEq] at h
 obtain ⟨rfl, rfl, rfl, rfl, rfl, rfl, rfl, rfl, rfl, rfl⟩ := h
 go_enter Try.func76, Try.ntmps76
 go_wp2_with (first | ((with_reducible refine gate_dst (N := 3) rfl ?_); refine bx 3 #[.int .i64 a1] 3 ?_; intro gv hg w3 hbox hb; replace BV := ak (hbox); replace GV := ak (bz hg (lG HB)); replace HB := lB HB hb; clear hb hbox hg) | ((with_reducible refine gate_dst (N := 4) rfl ?_); refine b9 4 ?_; intro gg hg w5 hbox hb; replace BV := bB BV hb; replace BG := ak (hbox); replace GG := ak (bz hg (lG HB)); replace HB := lB HB hb; clear hb hbox hg; obtain ⟨hcg_0, hcg_1, hcg_2, hcg_3, hcg_4, hcg_5, hcg_6, hcg_7, hcg_8, hfg_0, hfg_1, hfg_2, hfg_3, hfg_4, hfg_5, hfg_6, hfg_7, hfg_8⟩ := bC9 BG; skip) | ((with_reducible refine gate_callee (f := 104) rfl ?_); refine gl (some 11) Try.func104 #[.slice A0 l0.length c0, .func (.func 105) #[] #[.pointer (some ⟨gv, 0, none⟩)], .func (.func 107) #[] #[]] ?_; refine (latest_drop #[.pointer (some ⟨gv, 0, none⟩)] (abM 2 a1) seqQ A0 c0 l0 _ (Kd.C_below HR0.out (lG HB)) HC0.out (fun x _ W hW => clo_drop gv a1 x W (blk_below (bG BV) hW)) bySeq_q).mono ?_; rintro e w7 ⟨rfl, hb⟩; refine ⟨_, rfl, ?_⟩; replace BV := bB BV hb; replace BG := bB BG hb; replace HB := lB HB hb; have hd := HD.out; (try simp only [hd]); clear hb; obtain ⟨hcl11_0, hcl11_1, hcl11_2, hcl11_3, hcl11_4, hcl11_5, hcl11_6, hcl11_7, hcl11_8, hfl11_0, hfl11_1, hfl11_2, hfl11_3, hfl11_4, hfl11_5, hfl11_6, hfl11_7, hfl11_8⟩ := bC9 BG; skip) | ((with_reducible refine gate_dst (N := 6) rfl ?_); refine b9 6 ?_; intro gi hg w8 hbox hb; replace NVI := ak (nl hg (bG BV)); replace NGI := ak (nl hg (bG BG)); replace BV := bB BV hb; replace BG := bB BG hb; replace BI := ak (hbox); replace GI := ak (bz hg (lG HB)); replace HB := lB HB hb; clear hb hbox hg; have hni := NGI.out; obtain ⟨hci_0, hci_1, hci_2, hci_3, hci_4, hci_5, hci_6, hci_7, hci_8, hfi_0, hfi_1, hfi_2, hfi_3, hfi_4, hfi_5, hfi_6, hfi_7, hfi_8⟩ := bC9 BI; obtain ⟨hch_0, hch_1, hch_2, hch_3, hch_4, hch_5, hch_6, hch_7, hch_8, hfh_0, hfh_1, hfh_2, hfh_3, hfh_4, hfh_5, hfh_6, hfh_7, hfh_8⟩ := bC9 BG; skip) | ((with_reducible refine gate_callee (f := 104) rfl ?_); refine gl (some 18) Try.func104 #[.slice A0 l0.length c0, .func (.func 108) #[] #[.pointer (some ⟨gv, 0, none⟩)], .func (.func 109) #[] #[]] ?_; refine (latest_box #[.pointer (some ⟨gv, 0, none⟩)] (abM 1 a1) nextQ A0 c0 l0 _ (Kd.C_below HR0.out (lT HB (gC GI gN))) HC0.out (fun x _ W hW => clo_box gv a1 x W (blk_below (bT BV (nC NVI nN)) hW)) byNext_q).mono ?_; rintro e w9 ⟨rfl, hb⟩; refine ⟨_, rfl, ?_⟩; replace BG := ak (blk_below (bT BG (nC NGI nN)) hb); replace HB := ak (below_step (lT HB (gC GI gN)) hb); clear hb; obtain ⟨_, _, _, _, _, _, _, _, _, _, _, _, _, _, _, _, _, _⟩ := bC9 BG; skip))
 refine bodyPost_ret (results_ct rfl _ _ gg 32 #[.int .i64 (latestM (abM 1 a1) nextQ l0).1.f0, .int .i64 (latestM (abM 1 a1) nextQ l0).1.f1.f0, .int .i64 (latestM (abM 1 a1) nextQ l0).1.f1.f1, .int .i64 (latestM (abM 1 a1) nextQ l0).1.f1.f2, .int .i64 (latestM (abM 1 a1) nextQ l0).1.f1.f3, .int .i64 (latestM (abM 1 a1) nextQ l0).1.f1.f4, .string (latestM (abM 1 a1) nextQ l0).1.f1.f5, .string (latestM (abM 1 a1) nextQ l0).1.f1.f6, .string (latestM (abM 1 a1) nextQ l0).1.f1.f7] (0, 0) _ rfl (bW BG) Try.underlying32 rfl (by kernel_rfl)) rfl ?_
 exact ⟨rfl, by exact lT HB (gC GG gN)⟩
 }
end Go.Proofs.Ytagkjeldheiejaa.PFnStatesTold
