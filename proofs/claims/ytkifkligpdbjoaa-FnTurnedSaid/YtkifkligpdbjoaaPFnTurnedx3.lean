/- laws.FnTurned, walked by hand: what it computes is laws_FnTurned.f; the conditions are the contract's own. -/
import Derived.Test.YtkifkligpdbjoaaPFnTurnedx1
import Derived.Test.YtkifkligpdbjoaaPFnTurnedx2
import Derived.Test.YtkifkligpdbjoaaVFnTurned1
import Derived.Lib.ConvBytes
set_option linter.unusedVariables false
set_option linter.unusedSimpArgs false
namespace Go.Proofs.Ytkifkligpdbjoaa.PFnTurned
open Go.RowKit Go.Proofs.YtkifkligpdbjoaaW.PrintWords Go.Proofs.YtkifkligpdbjoaaW.PrintLast Go.Proofs.YtkifkligpdbjoaaW.PrintMore
attribute [local go_sem] max2_int min2_int max_two min_two max_three min_three max_four min_four
theorem bytesWorld_below (W : World) (t : ByteArray) : Below W.heap.size W (Lib.bytesWorld W 5 t) :=
  ⟨by simp [Lib.bytesWorld, World.freeze, World.alloc, World.drew, -World.alloc_eq, -World.drew_eq], by simp [Lib.bytesWorld, World.freeze, World.alloc, World.drew, -World.alloc_eq, -World.drew_eq], by simp [Lib.bytesWorld, World.freeze, World.alloc, World.drew, -World.alloc_eq, -World.drew_eq], by rw [Lib.bytesWorld_size]; omega, fun k hk => Lib.bytesWorld_at_old W 5 t k hk⟩
theorem bytes_get (t : ByteArray) (j : Nat) (hj : j < t.size) : ((t.data.toList.getD j 0).toNat : Int) = bt t (j : Int) := by
  have h := bt_at t (j : Int) (by simpa using hj)
  rw [← h]
  have hj' : j < t.data.toList.length := by rw [data_length]; exact hj
  rw [List.getD_eq_getElem?_getD, List.getElem?_eq_getElem hj']
  rfl
theorem putF {w : World} {g : Nat} {t : TypeId} {cs : Array Value} {fr : Nat × Nat} (h : w.heap[g]? = some (.cells cs t fr)) (i : Nat) (u : Value) : (w.setCell ⟨g, i, none⟩ u).heap[g]? = some (.cells (cs.setIfInBounds i u) t fr) := by
  simp [World.setCell, Array.getElem?_modify, h]
theorem froF {w : World} {g : Nat} {t : TypeId} {cs : Array Value} {m : Nat} (h : w.heap[g]? = some (.cells cs t (m, m + 1))) (i : Nat) (hi : i < m) : w.frozen? ⟨g, i, none⟩ = false := by
  simp [World.frozen?, h]; omega
/-- The row of '[]byte(t)': its cells, and that they may be written. -/
def IsB (w : World) (g : Nat) (l : List Int) : Prop := ∃ (cs : Array Value) (m : Nat), w.heap[g]? = some (.cells cs 5 (m, m + 1)) ∧ l.length ≤ m ∧ l.length ≤ cs.size ∧ ∀ j, j < l.length → cs[j]? = some (.int .u8 (l.getD j 0))
theorem IsB.cell {w : World} {g : Nat} {l : List Int} (h : IsB w g l) (j : Nat) (hj : j < l.length) : w.cell? ⟨g, j, none⟩ = some (.int .u8 (l.getD j 0)) := by
  obtain ⟨cs, m, h1, h2, h3, h4⟩ := h
  rw [cell_of_row w g j cs 5 (m, m + 1) h1]
  exact h4 j hj
theorem IsB.fro {w : World} {g : Nat} {l : List Int} (h : IsB w g l) (j : Nat) (hj : j < l.length) : w.frozen? ⟨g, j, none⟩ = false := by
  obtain ⟨cs, m, h1, h2, h3, h4⟩ := h
  exact froF h1 j (by omega)
theorem IsB.below {w w1 : World} {g : Nat} {l : List Int} (h : IsB w g l) (hb : Below w.heap.size w w1) : IsB w1 g l := by
  obtain ⟨cs, m, h1, h2⟩ := h
  exact ⟨cs, m, blk_below h1 hb, h2⟩
theorem IsB.put {w : World} {g : Nat} {l : List Int} (h : IsB w g l) (i : Nat) (c : Int) : IsB (w.setCell ⟨g, i, none⟩ (.int .u8 c)) g (l.set i c) := by
  obtain ⟨cs, m, h1, h2, h3, h4⟩ := h
  refine ⟨_, m, putF h1 i _, by rw [List.length_set]; exact h2, by rw [List.length_set, Array.size_setIfInBounds]; exact h3, fun j hj => ?_⟩
  rw [List.length_set] at hj
  rw [Array.getElem?_setIfInBounds]
  by_cases e : i = j
  · subst e
    have hi : i < cs.size := by omega
    simp [hi, List.getD_eq_getElem?_getD, List.getElem?_set, hj]
  · rw [if_neg e, h4 j hj]
    simp [List.getD_eq_getElem?_getD, List.getElem?_set, e]
theorem IsB.drew {w : World} {g : Nat} {l : List Int} (h : IsB w g l) : IsB w.drew g l := h
theorem IsB.reads {w : World} {g : Nat} {l : List Int} (h : IsB w g l) (hl : l.length ≤ 9223372036854775807) : ReadsInt w .u8 (some ⟨g, 0, none⟩) l.length l := by
  refine ⟨rfl, hl, fun _ => ⟨_, rfl, fun j hj => ?_⟩⟩
  have := h.cell j hj
  cases j with
  | zero => exact this
  | succ j => simpa [Addr.add] using this
theorem isB_new (W : World) (t : ByteArray) : IsB (Lib.bytesWorld W 5 t) W.heap.size (bytesOf t) := by
  have hl := bytesOf_length t
  refine ⟨_, _, Lib.bytesWorld_at_new W 5 t, ?_, ?_, fun j hj => ?_⟩
  · rw [hl]; unfold Lib.bytesCells; rw [Array.size_append, Array.size_map]; exact Nat.le_add_right _ _
  · rw [hl]; unfold Lib.bytesCells; rw [Array.size_append, Array.size_map]; exact Nat.le_add_right _ _
  · rw [hl] at hj
    have h1 := Lib.bytesWorld_cell W 5 t j hj
    rw [cell_of_row _ _ _ _ _ _ (Lib.bytesWorld_at_new W 5 t)] at h1
    rw [h1]
    have hj' : j < t.data.toList.length := by rw [data_length]; exact hj
    have e1 : (bytesOf t).getD j 0 = ((t.data.toList.getD j 0).toNat : Int) := by
      unfold bytesOf
      rw [List.getD_eq_getElem?_getD, List.getElem?_map, List.getD_eq_getElem?_getD, List.getElem?_eq_getElem hj']
      rfl
    rw [e1]
theorem bv_ {P : Program} {ops : Array Oper} {rest : List Oper} {o : Oper} {a : Act} {Q : Exit → Act → World → Prop} {W : World} (n : Tmp) (t : ByteArray)
    (hr : (execOp a.eval o).run P W = .ok (.value (.slice (some ⟨W.heap.size, 0, none⟩) t.size (grownCap W t.size 0 5))) (Lib.bytesWorld W 5 t))
    (h : ∀ g c w1, g = W.heap.size → IsB w1 g (bytesOf t) → Below W.heap.size W w1 → wpList P ops Q rest (a.put o.dst (.slice (some ⟨g, 0, none⟩) t.size c)) w1)
    (hd : o.dst = some n := by exact rfl) (hg : o.guard = none := by exact rfl) : wpList P ops Q (o :: rest) a W :=
  Kd.event_run hg hr (h _ _ _ rfl (isB_new W t) (bytesWorld_below W t))
def laws_FnTurned.xs (t : ByteArray) (p : List Int) : List Int := (bytesOf t).set (Int.tmod (rd p 0) (t.size : Int)).toNat (Go.bits .xor .u8 (bt t (Int.tmod (rd p 0) (t.size : Int))) (IntKind.u8.wrap (wrap64 (1 + Int.tmod (rd p 1) 255))))
def laws_FnTurned.f (k : Nat) (l0 : List Int) : Option Bool := (laws_big.f l0).bind fun b => if b = true then some true else
  (spec_DrawSumOf.f k l0).bind fun s => (spec_DrawPlaces.f k l0).bind fun p => (impl_Sealed.f k s).bind fun t => (impl_Unsealed.f k t.1).bind fun u =>
  if (t.2 = true ∧ u.2 = true ∧ u.1 = s) ∧ (t.1.size = s.size + 4 ∧ s.size ≤ 1000000) ∧ (2 ≤ p.length ∧ p.length ≤ 1000) ∧ (0 ≤ rd p 0 ∧ rd p 0 ≤ 1000000000 ∧ 0 ≤ rd p 1 ∧ rd p 1 ≤ 1000000000) then
    (impl_Unsealed.f k (strOfNums (laws_FnTurned.xs t.1 p))).bind fun v => if v.2 = false then (impl_SumOf.f k s).bind fun a => (impl_SumMore.f k a (⟨#[120]⟩ : ByteArray)).bind fun c => (impl_SumOf.f k (s ++ (⟨#[120]⟩ : ByteArray))).bind fun d => if c = d then some true else none else none
  else none
def laws_FnTurned.T11 : Bool × List (List Nat × List Nat) := (true, [([], []), ([], []), ([], []), ([], []), ([2, 3], [2, 3]), ([4], [4]), ([], []), ([6], [6]), ([7], [7]), ([8], [8]), ([9], [9]), ([10], [10]), ([5, 11], [5, 11]), ([0, 1, 0, 1, 2, 3, 4, 5, 6, 7, 8, 9, 10, 11, 12], [0, 1]), ([13, 12, 0, 1, 2, 3, 4, 5, 6, 7, 8, 9, 10, 11, 12], [12, 13])])
def laws_FnTurned.B11 : List Nat := [0, 0, 0, 0, 12, 28, 0, 64, 192, 448, 960, 1984, 4092, 8191, 16383]
theorem laws_FnTurned.tab11 : rtab .any (opsOf Try.f3 11) = laws_FnTurned.T11 := by kernel_rfl
theorem laws_FnTurned.bits11 : waitsOk laws_FnTurned.T11.2 laws_FnTurned.B11 = true := by kernel_rfl
set_option maxHeartbeats 16000000 in
set_option maxRecDepth 100000 in
theorem laws_FnTurned.calls (k : Nat) (A0 : Option Addr) (c0 : Nat) (l0 : List Int) (r : Bool) (w : World) (hr0 : Kd.C (Kd.int .u8) w A0 l0.length l0) (hc0 : l0.length ≤ c0) (h : laws_FnTurned.f k l0 = some r) :
    Calls Try.prog 3 #[.slice A0 l0.length c0] w fun e w' => e = .returned (.bool r) ∧ Below w.heap.size w w' := by
  have HR0 := ak hr0
  have HC0 := ak hc0
  have HB := ak (Below.refl w.heap.size w)
  clear hr0 hc0
  unfold laws_FnTurned.f at h
  replace h := Option.bind_eq_some_iff.mp h
  obtain ⟨b, A0', h⟩ := h
  have A1 := ak A0'
  clear A0'
  cases b with
  | true =>
    rw [if_pos rfl] at h
    obtain rfl := Option.some.inj h
    clear h
    go_enter Try.func3, Try.ntmps3
    go_wp2_with (first | ((with_reducible refine gate_callee (f := 4) rfl ?_); refine gl (some 14) Try.func4 #[.slice A0 l0.length c0] ?_; (with_reducible refine (laws_big.calls A0 c0 l0 true _ (Kd.C_below HR0.out (lG HB)) HC0.out A1.out).mono ?_); rintro e w6 ⟨rfl, ⟨nd, rfl⟩⟩; refine ⟨_, rfl, ?_⟩))
    go_ret
    exact ⟨rfl, by exact lG HB⟩
  | false =>
    rw [if_neg (by simp)] at h
    replace h := Option.bind_eq_some_iff.mp h
    obtain ⟨s, A0', h⟩ := h
    have A2 := ak A0'
    clear A0'
    replace h := Option.bind_eq_some_iff.mp h
    obtain ⟨p, A0', h⟩ := h
    have A3 := ak A0'
    clear A0'
    replace h := Option.bind_eq_some_iff.mp h
    obtain ⟨⟨t, ok⟩, A0', h⟩ := h
    have A4 := ak A0'
    clear A0'
    replace h := Option.bind_eq_some_iff.mp h
    obtain ⟨⟨u, right⟩, A0', h⟩ := h
    have A5 := ak A0'
    clear A0'
    simp only at h
    by_cases hc : (ok = true ∧ right = true ∧ u = s) ∧ (t.size = s.size + 4 ∧ s.size ≤ 1000000) ∧ (2 ≤ p.length ∧ p.length ≤ 1000) ∧ (0 ≤ rd p 0 ∧ rd p 0 ≤ 1000000000 ∧ 0 ≤ rd p 1 ∧ rd p 1 ≤ 1000000000)
    · rw [if_pos hc] at h
      obtain ⟨⟨rfl, rfl, rfl⟩, hz, hp, hq⟩ := hc
      replace h := Option.bind_eq_some_iff.mp h
      obtain ⟨⟨v1, v2⟩, A0', h⟩ := h
      have A6 := ak A0'
      clear A0'
      cases v2 with
      | true => exact absurd h (by simp)
      | false =>
      simp only [if_true] at h
      replace h := Option.bind_eq_some_iff.mp h
      obtain ⟨sa, A0', h⟩ := h
      have A7 := ak A0'
      clear A0'
      replace h := Option.bind_eq_some_iff.mp h
      obtain ⟨sb, A0', h⟩ := h
      have A8 := ak A0'
      clear A0'
      replace h := Option.bind_eq_some_iff.mp h
      obtain ⟨sd, A0', h⟩ := h
      have A9 := ak A0'
      clear A0'
      by_cases hs : sb = sd
      · rw [if_pos hs] at h
        subst hs
        obtain rfl := Option.some.inj h
        clear h
        have HZ := ak hz
        have HP := ak hp
        have HQ := ak hq
        have hne1 : ((u.toList != u.toList)) = false := by simp
        have hz4 : ((t.size : Int) != wrap64 ((u.size : Int) + 4)) = false := by have := HZ.out; rw [show wrap64 ((u.size : Int) + 4) = ((t.size : Nat) : Int) by unfold wrap64; omega]; simp
        have ht0 : decide ((t.size : Int) = 0) = false := decide_eq_false (by have := HZ.out; omega)
        have ht1 : ((t.size : Int) == 0) = false := beq_eq_false_iff_ne.mpr (by have := HZ.out; omega)
        have hcv : ∀ W : World, (convert 9 22 (.string t)).run Try.prog W = .ok (.slice (some ⟨W.heap.size, 0, none⟩) t.size (grownCap W t.size 0 5)) (Lib.bytesWorld W 5 t) := fun W => Lib.run_convert_string_bytes W 9 22 5 t Try.underlying9 Try.underlying22 Try.underlying5
        have HCV := ak hcv
        have ht2 : (t.size = 0) = False := eq_false (by have := HZ.out; omega)
        have ht3 : ((t.size : Int) = 0) = False := eq_false (by have := HZ.out; omega)
        have ht4 : (t = ByteArray.empty) = False := eq_false (fun e => by have := HZ.out; rw [e] at this; simp at this)
        have hp0 : (0 < p.length) = True := eq_true (by have := HP.out; omega)
        have hp1 : (1 < p.length) = True := eq_true (by have := HP.out; omega)
        have hp2 : ((0 : Int) < (p.length : Int)) = True := eq_true (by have := HP.out; omega)
        have hp3 : ((1 : Int) < (p.length : Int)) = True := eq_true (by have := HP.out; omega)
        clear hz hp hq hcv
        go_enter Try.func3, Try.ntmps3
        go_wp2_with (first | ((with_reducible refine gate_callee (f := 4) rfl ?_); refine gl (some 14) Try.func4 #[.slice A0 l0.length c0] ?_; (with_reducible refine (laws_big.calls A0 c0 l0 false _ (Kd.C_below HR0.out (lG HB)) HC0.out A1.out).mono ?_); rintro e w6 ⟨rfl, hd⟩; refine ⟨_, rfl, ?_⟩; replace HB := lB HB hd.below; clear hd) | ((with_reducible refine gate_callee (f := 5) rfl ?_); refine gl (some 16) Try.func5 #[.slice A0 l0.length c0] ?_; (with_reducible refine (spec_DrawSumOf.calls k A0 c0 l0 u _ (Kd.C_below HR0.out (lG HB)) HC0.out A2.out).mono ?_); rintro e w7 ⟨rfl, hb⟩; refine ⟨_, rfl, ?_⟩; replace HB := lB HB hb; clear hb) | ((with_reducible refine gate_callee (f := 6) rfl ?_); refine gl (some 18) Try.func6 #[.slice A0 l0.length c0] ?_; (with_reducible refine (spec_DrawPlaces.calls k A0 c0 l0 p _ (Kd.C_below HR0.out (lG HB)) HC0.out A3.out).mono ?_); rintro e w8 ⟨vp, rfl, ho, hb⟩; refine ⟨_, rfl, ?_⟩; have HO := ak (Kd.R_lower ho (below_size (lG HB))); replace HB := lB HB hb; clear hb ho; obtain ⟨Ap, cp, ep⟩ := Kd.R_slice HO.out; subst ep) | ((with_reducible refine gate_callee (f := 7) rfl ?_); refine gl (some 21) Try.func7 #[.string u] ?_; (with_reducible refine (impl_Sealed.calls k u t true _ A4.out).mono ?_); rintro e w9 ⟨rfl, hb⟩; refine ⟨_, rfl, ?_⟩; replace HO := rB HO hb; replace HB := lB HB hb; clear hb) | ((with_reducible refine gate_callee (f := 8) rfl ?_); refine gl (some 26) Try.func8 #[.string t] ?_; (with_reducible refine (impl_Unsealed.calls k t u true _ A5.out).mono ?_); rintro e w10 ⟨rfl, hb⟩; refine ⟨_, rfl, ?_⟩; replace HO := rB HO hb; replace HB := lB HB hb; clear hb) | ((with_reducible refine gate_dst (N := 49) rfl ?_); refine bv_ 49 t ?hr ?_; (case hr => first | (have hcv_ := HCV.out; go_simp; done) | (have hcv_ := HCV.out; go_simp; simp [hcv_]; done)); intro gb cb w11 hg hi hb; have HI := ak hi; have GG := ak (by rw [hg]; exact below_size (lG HB) : w.heap.size ≤ gb); replace HO := rB HO hb; replace HB := lB HB hb; clear hg hi hb; obtain ⟨adp, ead, hx0⟩ := Kd.at_int (Kd.R_reads' HO.out).2.2 0 (by omega) (by have := HP.out; omega); obtain ⟨ad1, ead1, hx1⟩ := Kd.at_int (Kd.R_reads' HO.out).2.2 1 (by omega) (by have := HP.out; omega); cases ead; cases ead1; have hx00 : w11.cell? adp = some (.int .i64 (rd p 0)) := by simpa [Addr.add] using hx0))
        obtain ⟨ix, hix⟩ : ∃ ix : Int, Int.tmod (rd p 0) (t.size : Int) = ix := ⟨_, rfl⟩
        have hi0 : 0 ≤ ix ∧ ix < (t.size : Int) := by rw [← hix]; exact ⟨Int.tmod_nonneg _ HQ.out.1, Int.tmod_lt_of_pos _ (by have := HZ.out; omega)⟩
        have HX := ak (show laws_FnTurned.xs t p = (bytesOf t).set ix.toNat (Go.bits .xor .u8 (bt t ix) (IntKind.u8.wrap (wrap64 (1 + Int.tmod (rd p 1) 255)))) by unfold laws_FnTurned.xs; rw [hix])
        rw [hix]
        clear hix hx0 hx00
        have hb0 : w11.cell? ⟨gb, ix.toNat, none⟩ = some (.int .u8 (bt t ix)) := by
          have h1 := HI.out.cell ix.toNat (by rw [bytesOf_length]; omega)
          rw [h1]
          show some (Value.int .u8 (rd (bytesOf t) ix)) = _
          rw [rd_bytesOf]
        have hx10 : w11.cell? ⟨adp.block, adp.off + 1, none⟩ = some (.int .i64 (rd p 1)) := by simpa [Addr.add] using hx1
        have hbf : w11.drew.frozen? ⟨gb, ix.toNat, none⟩ = false := HI.out.fro ix.toNat (by rw [bytesOf_length]; omega)
        have hi1 := eq_true hi0.1
        have hi2 := eq_true hi0.2
        have HIX := ak hi0
        replace HI := ak (IsB.drew HI.out)
        replace HB := ak (below_drew1 HB.out)
        clear HO hx1 hi0
        refine start_ (n := 15) (S := fun w' => w'.cell? ⟨gb, ix.toNat, none⟩ = some (.int .u8 (bt t ix)) ∧ w'.cell? ⟨adp.block, adp.off + 1, none⟩ = some (.int .i64 (rd p 1))) (ds := [14]) #[f_,f_,f_,f_,f_,f_,f_,f_,f_,f_,f_,f_,f_,f_,f_] (by kernel_rfl) rfl rfl ⟨hb0, hx10⟩ (fun hHeld => ?_); refine with_tabW laws_FnTurned.tab11 laws_FnTurned.bits11 (fun HT_ HW_ => ?_)
        clear hb0 hx10
        generalize w11.drew = w12 at HI HB hbf hHeld ⊢
        refine pu 0 56 (fb 15 1) HT_ ?_
        refine pu 1 57 (fb 15 3) HT_ ?_
        refine pu 2 58 (fb 15 7) HT_ ?_
        refine pu 3 59 (fb 15 15) HT_ ?_
        refine pu 6 62 (fb 15 79) HT_ ?_
        refine pu 4 60 (fb 15 95) HT_ ?_
        refine tk 5 61 (fb 15 127) HT_ HW_ hHeld ?_
        refine pu 7 63 (fb 15 255) HT_ ?_
        refine tk 8 64 (fb 15 511) HT_ HW_ hHeld ?_
        refine pu 9 65 (fb 15 1023) HT_ ?_
        refine pu 10 66 (fb 15 2047) HT_ ?_
        refine pu 11 67 (fb 15 4095) HT_ ?_
        refine pu 12 68 (fb 15 8191) HT_ ?_
        refine pu 13 69 (fb 15 16383) HT_ ?_
        refine last_ (i := 14) (N := none) #[t_,t_,t_,t_,t_,t_,t_,t_,t_,t_,t_,t_,t_,t_,t_] rfl rfl (one_of HT_.out (by kernel_rfl)) (by decide) (fun K hK => ?_)
        have hs0 := hHeld.1
        refine skip_ (w1 := ?_) (by rfl) rfl ?_ ?_
        rotate_left
        · go_simp
          rfl
        refine hK.out _ _ ?_
        clear hK K
        refine done_ (done_of HT_.out (by kernel_rfl)) ?_
        have HI2 := ak (IsB.put HI.out ix.toNat (Go.bits .xor .u8 (bt t ix) (IntKind.u8.wrap (wrap64 (1 + Int.tmod (rd p 1) 255)))))
        have HB2 := ak (lT (w' := w12.setCell ⟨gb, ix.toNat, none⟩ (.int .u8 (Go.bits .xor .u8 (bt t ix) (IntKind.u8.wrap (wrap64 (1 + Int.tmod (rd p 1) 255)))))) HB (gC GG gN))
        have A6' : impl_Unsealed.f k (strOfNums ((bytesOf t).set ix.toNat (Go.bits .xor .u8 (bt t ix) (IntKind.u8.wrap (wrap64 (1 + Int.tmod (rd p 1) 255)))))) = some (v1, false) := by rw [← HX.out]; exact A6.out
        clear HI HB hHeld hs0 hbf A6 HX
        generalize w12.setCell ⟨gb, ix.toNat, none⟩ (.int .u8 (Go.bits .xor .u8 (bt t ix) (IntKind.u8.wrap (wrap64 (1 + Int.tmod (rd p 1) 255))))) = w13 at HI2 HB2 ⊢
        have hcv2 : (convert 22 9 (.slice (some ⟨gb, 0, none⟩) t.size cb)).run Try.prog w13 = .ok (.string (strOfNums ((bytesOf t).set ix.toNat (Go.bits .xor .u8 (bt t ix) (IntKind.u8.wrap (wrap64 (1 + Int.tmod (rd p 1) 255))))))) w13 := by
          have := string_of_reads (c := cb) Try.underlying22 Try.underlying5 Try.underlying9 (HI2.out.reads (by rw [List.length_set, bytesOf_length]; have := HZ.out; omega))
          rw [List.length_set, bytesOf_length] at this
          exact this
        obtain ⟨y, hy⟩ : ∃ y, strOfNums ((bytesOf t).set ix.toNat (Go.bits .xor .u8 (bt t ix) (IntKind.u8.wrap (wrap64 (1 + Int.tmod (rd p 1) 255))))) = y := ⟨_, rfl⟩
        rw [hy] at hcv2 A6'
        have A6 := ak A6'
        clear A6' hy HI2
        have hsz0 : (u.size + 1 ≤ 9223372036854775807) = True := eq_true (by have := HZ.out; omega)
        have hsz1 : decide (u.size + 1 ≤ 9223372036854775807) = true := decide_eq_true (by have := HZ.out; omega)
        have hsz2 : (9223372036854775807 < u.size + 1) = False := eq_false (by have := HZ.out; omega)
        have HB := HB2
        clear HB2
        go_wp2_with (first | ((with_reducible refine gate_callee (f := 8) rfl ?_); refine gl (some 73) Try.func8 #[.string y] ?_; (with_reducible refine (impl_Unsealed.calls k y v1 false _ A6.out).mono ?_); rintro e w14 ⟨rfl, hb⟩; refine ⟨_, rfl, ?_⟩; replace HB := lB HB hb; clear hb) | (go_at_call 10; (with_reducible refine (impl_SumOf.calls k u sa _ A7.out).mono ?_); rintro e w15 ⟨rfl, hd⟩; replace HB := lB HB hd.below; clear hd) | (go_at_call 9; (with_reducible refine (impl_SumMore.calls k sa (⟨#[120]⟩ : ByteArray) sb _ A8.out).mono ?_); rintro e w16 ⟨rfl, hd⟩; replace HB := lB HB hd.below; clear hd) | (go_at_call 10; (with_reducible refine (impl_SumOf.calls k (u ++ (⟨#[120]⟩ : ByteArray)) sb _ A9.out).mono ?_); rintro e w17 ⟨rfl, hd⟩; replace HB := lB HB hd.below; clear hd))
        go_ret
        exact ⟨rfl, HB.out⟩
      · rw [if_neg hs] at h
        exact absurd h (by simp)
    · rw [if_neg hc] at h
      exact absurd h (by simp)
/-- THE ONE PURE STATEMENT of laws_FnTurned. -/
def laws_FnTurned.Pure : Prop := ∀ (l0 : List Int), l0.length ≤ maxLen → l0.length * 1 ≤ 140737488351232 → (∀ x ∈ l0, (Lit.int .u8 x).wf = true) → ∃ k, laws_FnTurned.f k l0 = some true
theorem laws_FnTurned.walk (P : laws_FnTurned.Pure) (a0 : Option Addr) (len0 cap0 : Nat) (z0 : List Int) (w : World) (w0 : (a0 = none ∧ len0 = 0 ∧ cap0 = 0 ∧ z0 = []) ∨ ∃ x, a0 = some x ∧ len0 ≤ cap0 ∧ cap0 ≤ maxLen ∧ z0.length = cap0 ∧ (∀ i, i < z0.length → w.cell? (x.add i) = some (.int .u8 (z0.getD i 0))) ∧ ∀ n ∈ z0, (Lit.int .u8 n).wf = true) (y0 : len0 * 1 ≤ 140737488351232) :
  Calls Try.prog 3 #[.slice a0 len0 cap0] w fun e w' => e = .returned (.bool true) ∧ Below w.heap.size w w' := by
 obtain ⟨l0, rfl, hr0, hm0, hw0, hc0⟩ := ReadsInt.ofRowC w0
 obtain ⟨k, h⟩ := P l0 hm0 y0 hw0
 refine (laws_FnTurned.calls k _ _ l0 true w (Kd.C_of_reads (d := (0 : Int)) (h1 := fun _ => rfl) hr0) hc0 h).mono ?_
 rintro e w' ⟨rfl, hd⟩
 exact ⟨rfl, hd⟩
end Go.Proofs.Ytkifkligpdbjoaa.PFnTurned
