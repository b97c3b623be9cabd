/- The law of ReadDecimal, walked: for every text it returns true and what was there stays; condition: the table of powers of ten and the two errors of strconv hold what the program's text lays. -/
import Derived.Test.YtjpngldnkgofaaaDoorRDec
import Derived.Test.YtjpngldnkgofaaaDoorRDecPure
import Derived.Test.YtjpngldnkgofaaaDoorLaidB
import Derived.WalkSmall
import Derived.Lib.LaidTab
set_option linter.unusedVariables false
set_option linter.unusedSimpArgs false
namespace Go.Proofs.YtjpngldnkgofaaaDoor.Walk
open Go.RowKit Go.Sort Go.Shelf Go.Proofs.YtjpngldnkgofaaaDoor.PFnExactReadDecimal Go.Proofs.YtjpngldnkgofaaaDoorW.PrintWords Go.Proofs.YtjpngldnkgofaaaDoorW.PrintLast Go.Proofs.YtjpngldnkgofaaaDoorW.PrintMore

theorem gT : Tryd.prog.globalNamed "internal/strconv.uint64pow10" = some 5 := by kernel_rfl
theorem tab_below {W W' : World} (h : Lib.TabIs Tryd.prog W "internal/strconv.uint64pow10" .u64 Lib.pow10Tab) (hb : Below W.heap.size W W') : Lib.TabIs Tryd.prog W' "internal/strconv.uint64pow10" .u64 Lib.pow10Tab := by
  have hc := h.cell gT 0 (by decide)
  exact var?_below hb gT (World.block_lt_of_cell? W _ hc) h
theorem below_grow {B : Nat} {w0 w : World} (os : Array Obj) (h : Below B w0 w) (hB : B ≤ w.heap.size) : Below B w0 (grow w os) := by
  refine ⟨h.os, h.tape, h.output, ?_, fun i hi => ?_⟩
  · show w0.heap.size ≤ (w.heap ++ os).size
    have := h.size
    rw [Array.size_append]; omega
  · show (w.heap ++ os)[i]? = _
    rw [Array.getElem?_append_left (by omega)]
    exact h.block i hi
set_option maxRecDepth 100000 in
theorem impl_Decimal_walk (n : Int) (h0 : -9223372036854775808 ≤ n) (h1 : n ≤ 9223372036854775807) (W : World) (htab : Lib.TabIs Tryd.prog W "internal/strconv.uint64pow10" .u64 Lib.pow10Tab) :
    Calls Tryd.prog 8 #[.int .i64 n] W fun e W' => e = .returned (.string ⟨(Lib.itoa n).toArray⟩) ∧ Below W.heap.size W W' := by
  have HI : ∀ w, Lib.TabIs Tryd.prog w "internal/strconv.uint64pow10" .u64 Lib.pow10Tab → Calls Tryd.prog 26 #[.int .i64 n] w fun e W' => e = .returned (.string ⟨(Lib.itoa n).toArray⟩) ∧ ∃ k os, W' = grow (w.drewN k) os := fun w hw => Any.strconv_Itoa Tryd.lays171 n h0 h1 w hw
  go_enter Tryd.func8, Tryd.ntmps8
  go_wp2_with (go_at_call 26; refine (HI _ htab).mono ?_; rintro e W' ⟨rfl, k, os, rfl⟩)
  go_ret
  exact ⟨rfl, below_grow os (pw_below_drewN (Below.refl _ _) k) (Nat.le_refl _)⟩
theorem atoi_ok (x : ByteArray) (hx : x.size ≤ 1048576) (v : Int) (h : Lib.atoiAll x.data.toList = .ok v) (W : World) :
    Calls Tryd.prog 27 #[.string x] W fun e W' => e = .returned (.tuple #[.int .i64 v, .nilIface]) ∧ Below W.heap.size W W' := by
  refine (Any.strconv_Atoi_ok Tryd.lays172 x (by omega) v h W).mono ?_
  rintro e W' ⟨rfl, hw⟩
  refine ⟨rfl, ?_⟩
  rcases hw with rfl | ⟨t, rfl⟩
  · exact Below.refl _ _
  · exact bytes_below (Below.refl _ _) (Nat.le_refl _) _ _
/-- What the two errors hold. -/
def ErrsLie (W : World) : Prop := (∃ t p, W.var? Tryd.prog "strconv.ErrSyntax" = some #[.iface t p]) ∧ ∃ t p, W.var? Tryd.prog "strconv.ErrRange" = some #[.iface t p]
theorem atoi_bad (x : ByteArray) (hx : x.size ≤ 1048576) (h : Lib.atoiAll x.data.toList = .«syntax» ∨ Lib.atoiAll x.data.toList = .range) (W : World) (hE : ErrsLie W) :
    Calls Tryd.prog 27 #[.string x] W fun e W' => ∃ (n : Int) (T : TypeId) (N : Nat), e = .returned (.tuple #[.int .i64 n, .iface T (.pointer (some ⟨N, 0, none⟩))]) ∧ Below W.heap.size W W' := by
  obtain ⟨⟨t1, p1, h1⟩, ⟨t2, p2, h2⟩⟩ := hE
  rcases h with h | h
  · refine (Any.strconv_Atoi_syntax_var Tryd.lays172 x (by omega) h t1 p1 W h1).mono ?_
    rintro e W' ⟨N, rfl, _, _, hb⟩
    exact ⟨0, _, N, rfl, hb⟩
  · refine (Any.strconv_Atoi_range_var Tryd.lays172 x (by omega) h t2 p2 W h2).mono ?_
    rintro e W' ⟨N, rfl, _, _, hb⟩
    exact ⟨_, _, N, rfl, hb⟩
theorem in_eq (a b c : Int) : impl_in.f a b c = some (decide (b ≤ a ∧ a ≤ c)) := by
  unfold impl_in.f
  by_cases h : a ≥ b <;> by_cases h2 : a ≤ c <;> simp [h, h2] <;> omega
set_option maxRecDepth 100000 in
theorem impl_ReadDecimal_walk (x : ByteArray) (hx : x.size ≤ 1048576) (W : World) (htab : Lib.TabIs Tryd.prog W "internal/strconv.uint64pow10" .u64 Lib.pow10Tab) (hE : ErrsLie W) :
    Calls Tryd.prog 10 #[.string x] W fun e W' => ∃ r : Int × Bool, e = .returned (.tuple #[.int .i64 r.1, .bool r.2]) ∧ Pure.Tells x r ∧ Below W.heap.size W W' := by
  have ht := Pure.tells_atoi x
  have HT := Aside0.mk htab
  by_cases hok : ∃ v, Lib.atoiAll x.data.toList = .ok v
  · obtain ⟨v, hv⟩ := hok
    rw [hv] at ht
    simp only at ht
    have HC := Aside0.mk (atoi_ok x hx v hv W)
    clear hv htab hE
    have hi := in_eq v 0 1000000000
    by_cases hr : 0 ≤ v ∧ v ≤ 1000000000
    · rw [decide_eq_true hr] at hi
      have HI := Aside0.mk hi
      obtain ⟨S, hS⟩ : ∃ S : ByteArray, (⟨(Lib.itoa v).toArray⟩ : ByteArray) = S := ⟨_, rfl⟩
      have hd : ∀ w, Lib.TabIs Tryd.prog w "internal/strconv.uint64pow10" .u64 Lib.pow10Tab → Calls Tryd.prog 8 #[.int .i64 v] w fun e W' => e = .returned (.string S) ∧ Below w.heap.size w W' := by
        intro w hw
        rw [← hS]
        exact impl_Decimal_walk v (by omega) (by omega) w hw
      have HD := Aside0.mk hd
      rw [hS] at ht
      clear hi hd hS
      by_cases he : S = x
      · rw [if_pos ⟨hr, he⟩] at ht
        have HP := Aside0.mk ht
        clear ht hr
        have he2 : (S.toList != x.toList) = false := by rw [he]; simp
        go_enter Tryd.func10, Tryd.ntmps10
        go_wp2_with (first
          | (go_at_call 27; refine HC.out.mono ?_; rintro e W1 ⟨rfl, hb⟩; have HB1 := Aside0.mk hb; clear hb)
          | (go_at_call 28; refine (impl_in.calls _ _ _ true _ HI.out).mono ?_; rintro e W2 ⟨rfl, ⟨nd, rfl⟩⟩)
          | (go_at_call 8; refine (HD.out _ (tab_below HT.out (pw_below_drewN HB1.out nd))).mono ?_; rintro e W3 ⟨rfl, hb⟩; have HB3 := Aside0.mk (below_step (pw_below_drewN HB1.out nd) hb); clear hb))
        go_ret2
        exact ⟨(v, true), rfl, HP.out, HB3.out⟩
      · rw [if_neg (fun h => he h.2)] at ht
        have HP := Aside0.mk ht
        clear ht hr
        have he3 : (S.toList == x.toList) = false := by
          rw [beq_eq_false_iff_ne]
          intro h
          exact he ((Base.tl_iff _ _).1 h)
        have he2 : (S.toList != x.toList) = true := by rw [bne, he3]; rfl
        go_enter Tryd.func10, Tryd.ntmps10
        go_wp2_with (first
          | (go_at_call 27; refine HC.out.mono ?_; rintro e W1 ⟨rfl, hb⟩; have HB1 := Aside0.mk hb; clear hb)
          | (go_at_call 28; refine (impl_in.calls _ _ _ true _ HI.out).mono ?_; rintro e W2 ⟨rfl, ⟨nd, rfl⟩⟩)
          | (go_at_call 8; refine (HD.out _ (tab_below HT.out (pw_below_drewN HB1.out nd))).mono ?_; rintro e W3 ⟨rfl, hb⟩; have HB3 := Aside0.mk (below_step (pw_below_drewN HB1.out nd) hb); clear hb))
        go_ret2
        exact ⟨(0, false), rfl, HP.out, HB3.out⟩
    · rw [decide_eq_false hr] at hi
      rw [if_neg (fun h => hr h.1)] at ht
      have HI := Aside0.mk hi
      have HP := Aside0.mk ht
      clear hi ht hr
      go_enter Tryd.func10, Tryd.ntmps10
      go_wp2_with (first
        | (go_at_call 27; refine HC.out.mono ?_; rintro e W1 ⟨rfl, hb⟩; have HB1 := Aside0.mk hb; clear hb)
        | (go_at_call 28; refine (impl_in.calls _ _ _ false _ HI.out).mono ?_; rintro e W2 ⟨rfl, ⟨nd, rfl⟩⟩))
      go_ret2
      exact ⟨(0, false), rfl, HP.out, pw_below_drewN HB1.out nd⟩
  · have hbad : Lib.atoiAll x.data.toList = .«syntax» ∨ Lib.atoiAll x.data.toList = .range := by
      cases e : Lib.atoiAll x.data.toList with
      | ok v => exact absurd ⟨v, e⟩ hok
      | «syntax» => exact Or.inl rfl
      | range => exact Or.inr rfl
    have HP : Aside0 (Pure.Tells x (0, false)) := ⟨by
      rcases hbad with h | h
      · rw [h] at ht; exact ht
      · rw [h] at ht; exact ht⟩
    have HC := Aside0.mk (atoi_bad x hx hbad W hE)
    clear ht hbad htab hE hok
    go_enter Tryd.func10, Tryd.ntmps10
    go_wp2_with (go_at_call 27; refine HC.out.mono ?_; rintro e W1 ⟨n, T, N, rfl, hb⟩; have HB1 := Aside0.mk hb; clear hb)
    go_ret2
    exact ⟨(0, false), rfl, HP.out, HB1.out⟩
set_option maxRecDepth 100000 in
theorem law_walk (x : ByteArray) (W : World) (htab : Lib.TabIs Tryd.prog W "internal/strconv.uint64pow10" .u64 Lib.pow10Tab) (hE : ErrsLie W) (hE2 : ∀ W', Below W.heap.size W W' → ErrsLie W') :
    Calls Tryd.prog 4 #[.string x] W fun e W' => e = .returned (.bool true) ∧ Below W.heap.size W W' := by
  by_cases hz : (x.size : Int) > 1048576
  · have hz1 : decide ((x.size : Int) > 1048576) = true := decide_eq_true hz
    have hz2 : decide ((1048576 : Int) < (x.size : Int)) = true := decide_eq_true hz
    have hz3 : decide (1048576 < x.size) = true := decide_eq_true (by omega)
    clear htab hE hE2
    go_enter Tryd.func4, Tryd.ntmps4
    go_wp2
    go_ret
    exact ⟨rfl, Below.refl _ _⟩
  · have hz1 : decide ((x.size : Int) > 1048576) = false := decide_eq_false hz
    have hz2 : decide ((1048576 : Int) < (x.size : Int)) = false := decide_eq_false hz
    have hz3 : decide (1048576 < x.size) = false := decide_eq_false (by omega)
    obtain ⟨r, hr, ht⟩ := Pure.spec_ReadDecimal_ev x
    obtain ⟨k, hk⟩ := Ev.rounds hr
    obtain ⟨r1, r2⟩ := r
    have HS := Aside0.mk hk
    have HT := Aside0.mk ht
    have HTab := Aside0.mk htab
    have HI : Aside0 (∀ w, Lib.TabIs Tryd.prog w "internal/strconv.uint64pow10" .u64 Lib.pow10Tab → ErrsLie w → Calls Tryd.prog 10 #[.string x] w fun e W' => e = .returned (.tuple #[.int .i64 r1, .bool r2]) ∧ Below w.heap.size w W') := ⟨by
      intro w hw he
      refine (impl_ReadDecimal_walk x (by omega) w hw he).mono ?_
      rintro e W' ⟨s, rfl, hs, hb⟩
      have := Pure.tells_one hs ht
      subst this
      exact ⟨rfl, hb⟩⟩
    have HE := Aside0.mk hE2
    clear hk hr ht htab hE hE2 hz
    have hq : (r2 != r2) = false := by simp
    go_enter Tryd.func4, Tryd.ntmps4
    go_wp2_with (first
      | (go_at_call 9; refine (spec_ReadDecimal.calls k x r1 r2 _ HS.out).mono ?_; rintro e W1 ⟨rfl, hb⟩; have HB := Aside0.mk hb; clear hb)
      | (go_at_call 10; refine (HI.out _ (tab_below HTab.out HB.out) (HE.out _ HB.out)).mono ?_; rintro e W2 ⟨rfl, hb2⟩; have HB2 := Aside0.mk (below_step HB.out hb2); clear hb2))
    go_ret
    exact ⟨rfl, HB2.out⟩
end Go.Proofs.YtjpngldnkgofaaaDoor.Walk
