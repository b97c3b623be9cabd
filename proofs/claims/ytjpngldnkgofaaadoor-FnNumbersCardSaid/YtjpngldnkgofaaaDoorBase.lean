/- Plain helpers of this seat's proofs: rounds, whole numbers without a wrap, the bytes of a text as a list; no condition. -/
import Derived.Test.YtjpngldnkgofaaaDoorWWords
import Derived.Test.YtjpngldnkgofaaaDoorWMore
import Derived.Laws.BitsLemmas
namespace Go.Proofs.YtjpngldnkgofaaaDoor.Base
open Go.RowKit Go.Proofs.YtjpngldnkgofaaaDoorW.PrintWords Go.Proofs.YtjpngldnkgofaaaDoorW.PrintMore

theorem ev_succ {α : Type} {g : Nat → Option α} {r : α} (h : Ev (fun k => g (k + 1)) r) : Ev g r := Ev.step (fun _ => rfl) h
theorem ev_const {α : Type} {o : Option α} {r : α} (h : o = some r) : Ev (fun _ => o) r := ⟨0, fun _ _ => h⟩
theorem ev_some {α : Type} {a r : α} (h : a = r) : Ev (fun _ => some a) r := ⟨0, fun _ _ => by rw [h]⟩
theorem w64 {x : Int} (h1 : -9223372036854775808 ≤ x) (h2 : x ≤ 9223372036854775807) : wrap64 x = x := by unfold wrap64; omega
theorem wn (i : Nat) {n : Nat} (h : i < n) (hn : n ≤ 140737488355328) : wrap64 ((i : Int) + 1) = ((i + 1 : Nat) : Int) := by unfold wrap64; omega
theorem wf64 {x : Int} (h : (Lit.int .i64 x).wf = true) : -9223372036854775808 ≤ x ∧ x ≤ 9223372036854775807 := by
  simp [Lit.wf, IntKind.min, IntKind.max, IntKind.bits, IntKind.signed] at h
  omega
theorem wf32 {x : Int} (h : (Lit.int .u32 x).wf = true) : 0 ≤ x ∧ x ≤ 4294967295 := by
  simp [Lit.wf, IntKind.min, IntKind.max, IntKind.bits, IntKind.signed] at h
  omega

theorem ev_ite {α : Type} {c : Prop} [Decidable c] {f g : Nat → Option α} {a b : α} (h : Ev f a) (k : Ev g b) : Ev (fun n => if c then f n else g n) (if c then a else b) := by
  by_cases hc : c
  · simpa only [if_pos hc] using h
  · simpa only [if_neg hc] using k

theorem ev_if {α : Type} {c : Prop} [Decidable c] {f g : Nat → Option α} {r : α} (h : c → Ev f r) (k : ¬ c → Ev g r) : Ev (fun n => if c then f n else g n) r := by
  by_cases hc : c
  · simpa only [if_pos hc] using h hc
  · simpa only [if_neg hc] using k hc

/-! ### A text's bytes -/
theorem bt_lt (x : ByteArray) (i : Int) : 0 ≤ bt x i ∧ bt x i < 256 := by have := bt_range x i; omega
theorem bytes_drop (x : ByteArray) (i : Nat) (h : i < x.size) : (bytesOf x).drop i = bt x (i : Int) :: (bytesOf x).drop (i + 1) := by
  have hl : i < (bytesOf x).length := by rw [bytesOf_length]; exact h
  rw [List.drop_eq_getElem_cons hl]
  congr 1
  rw [← rd_bytesOf]
  simp [rd, List.getD_eq_getElem?_getD, List.getElem?_eq_getElem hl]
theorem bytes_end (x : ByteArray) (i : Nat) (h : x.size ≤ i) : (bytesOf x).drop i = [] := by
  apply List.drop_eq_nil_of_le
  rw [bytesOf_length]; exact h
theorem bytes_mem (x : ByteArray) {b : Int} (h : b ∈ bytesOf x) : 0 ≤ b ∧ b < 256 := by
  unfold bytesOf at h
  obtain ⟨u, _, rfl⟩ := List.mem_map.1 h
  have := u.toNat_lt
  omega
theorem bytes_eq {x y : ByteArray} (h : bytesOf x = bytesOf y) : x = y := by
  have h1 : x.data.toList = y.data.toList := by
    have hi : Function.Injective (fun b : UInt8 => (b.toNat : Int)) := by
      intro a b hab
      have : a.toNat = b.toNat := Int.ofNat.inj hab
      exact UInt8.toNat_inj.1 this
    exact (List.map_inj_right (fun a b hab => hi hab)).1 h
  cases x with | mk a => cases y with | mk b => simp at h1; rw [h1]
theorem bytes_str (l : List Int) (h : ∀ b, b ∈ l → 0 ≤ b ∧ b < 256) : bytesOf (strOfNums l) = l := by
  unfold bytesOf
  rw [strOfNums_data, List.map_map]
  conv => rhs; rw [← List.map_id l]
  apply List.map_congr_left
  intro b hb
  obtain ⟨h0, h1⟩ := h b hb
  simp [Function.comp]
  omega
theorem str_bytes (x : ByteArray) : strOfNums (bytesOf x) = x := bytes_eq (bytes_str _ fun _ h => bytes_mem x h)
theorem bytes_append (x y : ByteArray) : bytesOf (x ++ y) = bytesOf x ++ bytesOf y := by
  unfold bytesOf
  simp [ByteArray.data_append]
theorem str_append (l m : List Int) : strOfNums (l ++ m) = strOfNums l ++ strOfNums m := by
  apply ByteArray.ext
  simp [strOfNums, ByteArray.data_append]
theorem bytes_extract (x : ByteArray) (i j : Nat) : bytesOf (x.extract i j) = ((bytesOf x).take j).drop i := by
  unfold bytesOf
  simp [ByteArray.data_extract, List.map_take, List.map_drop, List.drop_take]

theorem tl_iff (x y : ByteArray) : x.toList = y.toList ↔ x = y := by
  rw [ByteArray.toList_eq, ByteArray.toList_eq]
  constructor
  · intro h
    cases x with | mk a => cases y with | mk b => simp at h; rw [h]
  · intro h; rw [h]
theorem size_append (x y : ByteArray) : (x ++ y).size = x.size + y.size := ByteArray.size_append
theorem size_extract (x : ByteArray) (i j : Nat) : (x.extract i j).size = min j x.size - i := ByteArray.size_extract
theorem wfn {n : Nat} (h : n ≤ 9223372036854775807) : wrap64 (n : Int) = (n : Int) := w64 (by omega) (by omega)

/-! ### Bits -/
theorem b_wraps_i64 (n : Int) (h₀ : 0 ≤ n) (h₁ : n < 2 ^ 63) : IntKind.i64.wrap n = n := by rw [IntKind.wrap_i64]; omega
theorem b_wraps_u32 (n : Int) (h₀ : 0 ≤ n) (h₁ : n < 2 ^ 32) : IntKind.u32.wrap n = n := by rw [IntKind.wrap_u32]; omega
theorem b_and127 (x : Int) (h₀ : 0 ≤ x) (h₁ : x < 9223372036854775808) : bits .and .i64 x 127 = x % 128 := bits_mask .i64 63 (by decide) b_wraps_i64 7 (by decide) x h₀ h₁
theorem b_and1 (x : Int) (h₀ : 0 ≤ x) (h₁ : x < 4294967296) : bits .and .u32 x 1 = x % 2 := bits_mask .u32 32 (by decide) b_wraps_u32 1 (by decide) x h₀ h₁
theorem b_or128 (y : Int) (h₀ : 0 ≤ y) (h₁ : y < 128) : bits .or .i64 y 128 = y + 128 := by
  have h : ∀ m : Fin 128, bits .or .i64 (m.val : Int) 128 = (m.val : Int) + 128 := by decide
  obtain ⟨n, rfl⟩ := Int.eq_ofNat_of_zero_le h₀
  exact h ⟨n, by omega⟩
theorem b_xor_range (x y : Int) : 0 ≤ bits .xor .u32 x y ∧ bits .xor .u32 x y < 4294967296 := by
  unfold bits
  rw [IntKind.wrap_u32]
  omega
end Go.Proofs.YtjpngldnkgofaaaDoor.Base
