/- Plain: a frame's text is read back, and of a text that is cut just the whole frames are; nothing of the program; no condition. -/
import Derived.Test.YtjpngldnkgofaaaDoorModelScan
set_option linter.unusedVariables false
namespace Go.Proofs.YtjpngldnkgofaaaDoor.Base
open Go.RowKit Go.Proofs.YtjpngldnkgofaaaDoorW.PrintWords

theorem drop_bt (x : ByteArray) (i : Nat) (c : Int) (l : List Int) (h : (bytesOf x).drop i = c :: l) : i < x.size ∧ bt x (i : Int) = c ∧ (bytesOf x).drop (i + 1) = l := by
  by_cases hi : i < x.size
  · rw [bytes_drop x i hi] at h
    exact ⟨hi, (List.cons.inj h).1, (List.cons.inj h).2⟩
  · rw [bytes_end x i (by omega)] at h
    cases h
theorem drop_app (x : ByteArray) (i : Nat) (l r : List Int) (h : (bytesOf x).drop i = l ++ r) : (bytesOf x).drop (i + l.length) = r := by
  rw [← List.drop_drop, h, List.drop_left]
theorem drop_le (x : ByteArray) (i : Nat) (l r : List Int) (h : (bytesOf x).drop i = l ++ r) (hl : l ≠ []) : i + l.length ≤ x.size := by
  have := congrArg List.length h
  rw [List.length_drop, bytesOf_length, List.length_append] at this
  have : 0 < l.length := List.length_pos_iff.2 hl
  omega
theorem drop_ext (x b : ByteArray) (i : Nat) (r : List Int) (h : (bytesOf x).drop i = bytesOf b ++ r) : x.extract i (i + b.size) = b := by
  apply bytes_eq
  rw [runL_extract]
  unfold runL
  rw [h, ← bytesOf_length b, List.take_left]
theorem drop_pre (p y : ByteArray) : (bytesOf (p ++ y)).drop p.size = bytesOf y := by
  rw [bytes_append, ← bytesOf_length p, List.drop_left]
theorem mul_split (n P : Int) : n % 128 * P + n / 128 * (P * 128) = n * P := by
  have h : n = n % 128 + n / 128 * 128 := by omega
  conv => rhs; rw [h, Int.add_mul]
  rw [Int.mul_assoc, Int.mul_comm P 128]
theorem rvGo_var (x : ByteArray) (a : Nat) (f : Nat) : ∀ (k : Nat) (m : Int) (n : Nat) (r : List Int), 0 ≤ m → m + (n : Int) * 128 ^ k ≤ 1000000000 → (k = 0 ∨ n ≠ 0) → (varL n).length ≤ f → (bytesOf x).drop (a + k) = varL n ++ r →
    rvGo x a f k m = (m + (n : Int) * 128 ^ k, ((a + k + (varL n).length : Nat) : Int), true) := by
  induction f with
  | zero =>
    intro k m n r _ _ _ h4
    exact absurd (List.eq_nil_of_length_eq_zero (by omega)) (varL_ne n)
  | succ f ih =>
    intro k m n r h1 h2 h3 h4 h5
    unfold rvGo
    have hP : (0 : Int) ≤ 128 ^ k := Int.pow_nonneg (by omega)
    by_cases hn : 127 < n
    · rw [varL_big hn] at h4 h5 ⊢
      rw [List.cons_append] at h5
      obtain ⟨d1, d2, d3⟩ := drop_bt x (a + k) _ _ h5
      have e1 : ((n % 128 + 128 : Nat) : Int) % 128 = (n : Int) % 128 := by omega
      rw [if_pos d1, d2, if_neg (by omega), e1]
      have hs : m + (n : Int) % 128 * 128 ^ k + ((n / 128 : Nat) : Int) * 128 ^ (k + 1) = m + (n : Int) * 128 ^ k := by
        have := mul_split (n : Int) (128 ^ k)
        have e2 : ((n / 128 : Nat) : Int) = (n : Int) / 128 := by omega
        rw [e2, Int.pow_succ]
        omega
      have h0 : 0 ≤ (n : Int) % 128 * 128 ^ k := Int.mul_nonneg (by omega) hP
      rw [ih (k + 1) _ (n / 128) r (by omega) (by rw [hs]; exact h2) (.inr (by omega)) (by rw [List.length_cons] at h4; omega) d3, hs]
      rw [List.length_cons]
      refine Prod.ext rfl (Prod.ext ?_ rfl)
      simp only
      omega
    · rw [varL_small (by omega)] at h4 h5 ⊢
      obtain ⟨d1, d2, d3⟩ := drop_bt x (a + k) _ _ h5
      have e1 : (n : Int) % 128 = (n : Int) := by omega
      rw [if_pos d1, d2, if_pos (by omega), e1, if_neg (by omega)]
      rfl
theorem varL_len5 (n : Nat) (h : n ≤ 1000000000) : (varL n).length ≤ 5 := varL_length5 n h
theorem readVarM_var (x : ByteArray) (a n : Nat) (r : List Int) (hn : n ≤ 1000000000) (h : (bytesOf x).drop a = varL n ++ r) :
    readVarM x (a : Int) = ((n : Int), ((a + (varL n).length : Nat) : Int), true) := by
  have hle := drop_le x a _ _ h (varL_ne n)
  unfold readVarM
  rw [if_pos (by omega), Int.toNat_natCast]
  have := rvGo_var x a 5 0 0 n r (by omega) (by omega) (.inl rfl) (varL_len5 n hn) h
  rw [this]
  refine Prod.ext ?_ (Prod.ext ?_ rfl)
  · simp only; omega
  · simp only; omega
theorem frameL (g s : Nat) (b : ByteArray) (c : Int) : bytesOf ((((varS g ++ varS s) ++ varS b.size) ++ b) ++ fourS c) = varL g ++ (varL s ++ (varL b.size ++ (bytesOf b ++ bytesOf (fourS c)))) := by
  simp only [bytes_append, varS_bytes, List.append_assoc]
theorem readFrameM_trip (x : ByteArray) (a : Nat) (g s : Int) (b : ByteArray) (r : List Int) (h : frameOkM g s b = true) (hx : (bytesOf x).drop a = bytesOf (frameTextM g s b).1 ++ r) :
    readFrameM x (a : Int) = (g, s, b, ((a + (frameTextM g s b).1.size : Nat) : Int), true) := by
  have hr := of_decide_eq_true h
  obtain ⟨g', rfl⟩ := Int.eq_ofNat_of_zero_le (show 0 ≤ g by omega)
  obtain ⟨s', rfl⟩ := Int.eq_ofNat_of_zero_le (show 0 ≤ s by omega)
  have hft := frameTextM_ok (g' : Int) (s' : Int) b h
  obtain ⟨T, hT⟩ : ∃ T, (frameTextM (g' : Int) (s' : Int) b).1 = T := ⟨_, rfl⟩
  have hTv : T = ((((varS g' ++ varS s') ++ varS b.size) ++ b) ++ fourS (sumOfM (((varS g' ++ varS s') ++ varS b.size) ++ b))) := by
    rw [← hT, hft]; simp only [Int.toNat_natCast]
  have hTs : T.size = (varL g').length + (varL s').length + (varL b.size).length + b.size + 4 := by
    rw [hTv]; simp only [size_append, varS_size, fourS_size]
  rw [hT] at hx ⊢
  have hwhole := drop_ext x T a r hx
  have hx2 := hx
  rw [hTv, frameL] at hx2
  simp only [List.append_assoc] at hx2
  have v1 := readVarM_var x a g' _ (by omega) hx2
  have hx3 := drop_app _ _ _ _ hx2
  have v2 := readVarM_var x _ s' _ (by omega) hx3
  have hx4 := drop_app _ _ _ _ hx3
  have v3 := readVarM_var x _ b.size _ (by omega) hx4
  have hx5 := drop_app _ _ _ _ hx4
  have hb := drop_ext x b _ _ hx5
  have hsz := drop_le x a (bytesOf T) r hx (by
    intro h0
    have := congrArg List.length h0
    rw [bytesOf_length, List.length_nil] at this
    have := List.length_pos_iff.2 (varL_ne g')
    omega)
  rw [bytesOf_length] at hsz
  have v4 : readShortM x ((a + (varL g').length + (varL s').length : Nat) : Int) = (b, ((a + (varL g').length + (varL s').length + (varL b.size).length + b.size : Nat) : Int), true) := by
    unfold readShortM
    rw [v3]
    simp only
    rw [if_pos ⟨trivial, by omega, by omega⟩]
    refine Prod.ext ?_ (Prod.ext ?_ rfl)
    · simp only
      have e : (((a + (varL g').length + (varL s').length + (varL b.size).length : Nat) : Int) + (b.size : Int)).toNat = a + (varL g').length + (varL s').length + (varL b.size).length + b.size := by omega
      rw [e, Int.toNat_natCast, hb]
    · simp only; omega
  unfold readFrameM
  rw [v1]
  simp only
  rw [v2]
  simp only
  rw [v4]
  simp only
  rw [hT]
  have e : (((a + (varL g').length + (varL s').length + (varL b.size).length + b.size : Nat) : Int) + 4).toNat = a + T.size := by omega
  rw [e, Int.toNat_natCast, hwhole]
  rw [if_pos ⟨⟨trivial, trivial, trivial⟩, h, by omega, rfl⟩]
  refine Prod.ext rfl (Prod.ext rfl (Prod.ext rfl (Prod.ext ?_ rfl)))
  simp only
  omega
theorem bt_append (y z : ByteArray) (i : Nat) (h : i < y.size) : bt (y ++ z) (i : Int) = bt y (i : Int) := by
  have h1 := bytes_drop (y ++ z) i (by rw [size_append]; omega)
  rw [bytes_append, List.drop_append_of_le_length (by rw [bytesOf_length]; omega), bytes_drop y i h, List.cons_append] at h1
  exact (List.cons.inj h1).1.symm
theorem rvGo_mono (y z : ByteArray) (a f : Nat) : ∀ (k : Nat) (n : Int), (rvGo y a f k n).2.2 = true → rvGo (y ++ z) a f k n = rvGo y a f k n := by
  induction f with
  | zero => intro k n h; rfl
  | succ f ih =>
    intro k n h
    unfold rvGo at h ⊢
    by_cases h1 : a + k < y.size
    · rw [if_pos h1] at h ⊢
      rw [if_pos (by rw [size_append]; omega), bt_append y z _ h1]
      by_cases h2 : bt y ((a + k : Nat) : Int) < 128
      · rw [if_pos h2, if_pos h2]
      · rw [if_neg h2] at h ⊢
        rw [if_neg h2]
        exact ih _ _ h
    · rw [if_neg h1] at h; simp at h
theorem readVarM_mono (y z : ByteArray) (a : Int) (h : (readVarM y a).2.2 = true) : readVarM (y ++ z) a = readVarM y a := by
  unfold readVarM at h ⊢
  by_cases h1 : 0 ≤ a ∧ a ≤ (y.size : Int)
  · rw [if_pos h1] at h ⊢
    rw [if_pos ⟨h1.1, by rw [size_append]; omega⟩]
    exact rvGo_mono y z _ _ _ _ h
  · rw [if_neg h1] at h; simp at h
theorem ext_pre (y z : ByteArray) (i j : Nat) (h : j ≤ y.size) : (y ++ z).extract i j = y.extract i j := by
  apply bytes_eq
  rw [bytes_extract, bytes_extract, bytes_append, List.take_append_of_le_length (by rw [bytesOf_length]; exact h)]
theorem readShortM_mono (y z : ByteArray) (a : Int) (h : (readShortM y a).2.2 = true) : readShortM (y ++ z) a = readShortM y a := by
  obtain ⟨i1, i2, i3, i4, i5⟩ := readVarM_range y a
  unfold readShortM at h ⊢
  by_cases h1 : (readVarM y a).2.2 = true ∧ (readVarM y a).1 ≤ 20000 ∧ (readVarM y a).1 ≤ (y.size : Int) - (readVarM y a).2.1
  · rw [if_pos h1]
    rw [readVarM_mono y z a h1.1, if_pos ⟨h1.1, h1.2.1, by rw [size_append]; omega⟩, ext_pre y z _ _ (by omega)]
  · rw [if_neg h1] at h; simp at h
theorem readFrameM_mono (y z : ByteArray) (a : Int) (h : (readFrameM y a).2.2.2.2 = true) : readFrameM (y ++ z) a = readFrameM y a := by
  unfold readFrameM at h ⊢
  split at h
  · rename_i hc
    rw [if_pos hc]
    obtain ⟨⟨c1, c2, c3⟩, c4, c5, c6⟩ := hc
    rw [readVarM_mono y z _ c1, readVarM_mono y z _ c2, readShortM_mono y z _ c3]
    rw [if_pos ⟨⟨c1, c2, c3⟩, c4, by rw [size_append]; omega, by rw [ext_pre y z _ _ (by omega)]; exact c6⟩]
  · simp at h
/-- A frame, told by its three parts, and its text. -/
abbrev Fr : Type := Int × Int × ByteArray
def frT (f : Fr) : ByteArray := (frameTextM f.1 f.2.1 f.2.2).1
def joinT (p : ByteArray) (L : List Fr) : ByteArray := L.foldl (fun acc f => acc ++ frT f) p
theorem joinT_cons (p : ByteArray) (f : Fr) (L : List Fr) : joinT p (f :: L) = joinT (p ++ frT f) L := rfl
theorem joinT_snoc (p : ByteArray) (f : Fr) (L : List Fr) : joinT p (L ++ [f]) = joinT p L ++ frT f := by unfold joinT; rw [List.foldl_append]; rfl
theorem joinT_pre (L : List Fr) : ∀ p : ByteArray, ∃ r, joinT p L = p ++ r := by
  induction L with
  | nil => intro p; exact ⟨ByteArray.empty, by rw [ByteArray.append_empty]; rfl⟩
  | cons f L ih =>
    intro p
    obtain ⟨r, hr⟩ := ih (p ++ frT f)
    exact ⟨frT f ++ r, by rw [joinT_cons, hr, ByteArray.append_assoc]⟩
theorem joinT_size (p : ByteArray) (L : List Fr) : p.size ≤ (joinT p L).size := by
  obtain ⟨r, hr⟩ := joinT_pre L p
  rw [hr, size_append]; omega
theorem frT_pos (f : Fr) (h : frameOkM f.1 f.2.1 f.2.2 = true) : 0 < (frT f).size := by
  unfold frT
  rw [frameTextM_ok _ _ _ h]
  simp only [size_append, fourS_size]
  omega
theorem readFrameM_end (x : ByteArray) (a : Int) (h : (x.size : Int) ≤ a) : ¬ (readFrameM x a).2.2.2.2 = true := by
  intro h1
  have := readFrameM_adv x a h1
  omega
theorem joinT_read (p : ByteArray) (f : Fr) (L : List Fr) (h : frameOkM f.1 f.2.1 f.2.2 = true) : readFrameM (joinT p (f :: L)) (p.size : Int) = (f.1, f.2.1, f.2.2, (((p ++ frT f).size : Nat) : Int), true) := by
  obtain ⟨r, hr⟩ := joinT_pre L (p ++ frT f)
  rw [joinT_cons, hr, ByteArray.append_assoc]
  rw [readFrameM_trip _ p.size f.1 f.2.1 f.2.2 (bytesOf r) h (by rw [drop_pre, bytes_append]; rfl)]
  rw [size_append]
  rfl
/-- All frames of one Gen, one behind the other, come back. -/
theorem scan_all (g : Int) (L : List Fr) : ∀ (p : ByteArray) (f : Nat), (∀ x, x ∈ L → frameOkM x.1 x.2.1 x.2.2 = true ∧ x.1 = g) → L.length < f → scanGo (joinT p L) g f (p.size : Int) = (L, ((joinT p L).size : Int)) := by
  induction L with
  | nil =>
    intro p f _ hf
    obtain ⟨f, rfl⟩ : ∃ f', f = f' + 1 := ⟨f - 1, by simp at hf; omega⟩
    unfold scanGo
    rw [if_neg (readFrameM_end _ _ (by show (p.size : Int) ≤ _; omega))]
    rfl
  | cons y L ih =>
    intro p f hL hf
    obtain ⟨f, rfl⟩ : ∃ f', f = f' + 1 := ⟨f - 1, by simp at hf; omega⟩
    obtain ⟨hok, hg⟩ := hL y (by simp)
    unfold scanGo
    have hread := joinT_read p y L hok
    rw [hread]
    simp only [if_true]
    rw [if_pos hg, joinT_cons, ih (p ++ frT y) f (fun x hx => hL x (by simp [hx])) (by simp at hf; omega)]
theorem joinT_len (L : List Fr) : ∀ p : ByteArray, (∀ x, x ∈ L → frameOkM x.1 x.2.1 x.2.2 = true) → p.size + L.length ≤ (joinT p L).size := by
  induction L with
  | nil => intro p _; exact Nat.le_refl _
  | cons y L ih =>
    intro p hL
    have h1 := frT_pos y (hL y (by simp))
    have h2 := ih (p ++ frT y) (fun x hx => hL x (by simp [hx]))
    rw [joinT_cons, List.length_cons]
    rw [size_append] at h2
    omega
theorem scanM_all (g : Int) (L : List Fr) (hL : ∀ x, x ∈ L → frameOkM x.1 x.2.1 x.2.2 = true ∧ x.1 = g) : scanM (joinT ByteArray.empty L) g = (L, ((joinT ByteArray.empty L).size : Int)) := by
  have h := joinT_len L ByteArray.empty (fun x hx => (hL x hx).1)
  exact scan_all g L ByteArray.empty _ hL (by omega)
theorem cut_split (x : ByteArray) (k : Nat) (h : k ≤ x.size) : x.extract 0 k ++ x.extract k x.size = x := by
  apply bytes_eq
  rw [bytes_append, bytes_extract, bytes_extract]
  have : (bytesOf x).length = x.size := bytesOf_length x
  rw [List.drop_zero, List.take_of_length_le (i := x.size) (by omega), List.take_append_drop]
theorem cut_pre (p z : ByteArray) (k : Nat) (h : p.size ≤ k) : (p ++ z).extract 0 k = p ++ z.extract 0 (k - p.size) := by
  apply bytes_eq
  have : (bytesOf p).length = p.size := bytesOf_length p
  simp only [bytes_append, bytes_extract, List.drop_zero]
  rw [List.take_append, List.take_of_length_le (by omega), this]
/-- Of a text that is cut at k just the whole frames come back. -/
theorem scan_cut (g : Int) (k : Nat) (L : List Fr) : ∀ (p : ByteArray) (f : Nat), (∀ x, x ∈ L → frameOkM x.1 x.2.1 x.2.2 = true ∧ x.1 = g) → k < f + p.size → p.size ≤ k → k ≤ (joinT p L).size →
    ∃ m, m ≤ L.length ∧ scanGo ((joinT p L).extract 0 k) g f (p.size : Int) = (L.take m, ((joinT p (L.take m)).size : Int)) ∧ (joinT p (L.take m)).size ≤ k ∧ (m = L.length ∨ k < (joinT p (L.take (m + 1))).size) := by
  induction L with
  | nil =>
    intro p f _ hf hp hk
    obtain ⟨f, rfl⟩ : ∃ f', f = f' + 1 := ⟨f - 1, by omega⟩
    refine ⟨0, Nat.le_refl _, ?_, hp, .inl rfl⟩
    have hs : ((joinT p []).extract 0 k).size ≤ p.size := by rw [size_extract]; show min k p.size - 0 ≤ p.size; omega
    unfold scanGo
    rw [if_neg (readFrameM_end _ _ (by omega))]
    rfl
  | cons y L ih =>
    intro p f hL hf hp hk
    obtain ⟨f, rfl⟩ : ∃ f', f = f' + 1 := ⟨f - 1, by omega⟩
    have hpos := frT_pos y (hL y (by simp)).1
    obtain ⟨hok, hg⟩ := hL y (by simp)
    have hread := joinT_read p y L hok
    have hsplit := cut_split (joinT p (y :: L)) k hk
    by_cases hfit : (p ++ frT y).size ≤ k
    · -- the whole frame lies there
      obtain ⟨m, h1, h2, h3, h4⟩ := ih (p ++ frT y) f (fun x hx => hL x (by simp [hx])) (by rw [size_append]; omega) hfit hk
      refine ⟨m + 1, by simp; omega, ?_, h3, ?_⟩
      · obtain ⟨r, hr⟩ := joinT_pre L (p ++ frT y)
        have e : (joinT p (y :: L)).extract 0 k = p ++ (frT y ++ r.extract 0 (k - (p ++ frT y).size)) := by
          rw [joinT_cons, hr, cut_pre _ _ _ hfit, ByteArray.append_assoc]
        have hrd : readFrameM ((joinT p (y :: L)).extract 0 k) (p.size : Int) = (y.1, y.2.1, y.2.2, (((p ++ frT y).size : Nat) : Int), true) := by
          rw [e, readFrameM_trip _ p.size y.1 y.2.1 y.2.2 (bytesOf (r.extract 0 (k - (p ++ frT y).size))) hok (by rw [drop_pre, bytes_append]; rfl), size_append]
          rfl
        unfold scanGo
        rw [hrd]
        simp only [if_true]
        rw [if_pos hg, joinT_cons, h2]
        rfl
      · rcases h4 with h4 | h4
        · left; simp; omega
        · right; exact h4
    · refine ⟨0, by omega, ?_, hp, .inr (by show k < (joinT p [y]).size; show k < (p ++ frT y).size; omega)⟩
      have hno : ¬ (readFrameM ((joinT p (y :: L)).extract 0 k) (p.size : Int)).2.2.2.2 = true := by
        intro hyes
        have hm := readFrameM_mono _ ((joinT p (y :: L)).extract k (joinT p (y :: L)).size) _ hyes
        have ha := readFrameM_adv _ _ hyes
        rw [hsplit, hread] at hm
        rw [← hm] at ha
        have hs : ((joinT p (y :: L)).extract 0 k).size ≤ k := by rw [size_extract]; omega
        simp only at ha
        omega
      unfold scanGo
      rw [if_neg hno]
      rfl
end Go.Proofs.YtjpngldnkgofaaaDoor.Base
