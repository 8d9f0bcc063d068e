/-
  A part of the walk of the seat: laws of a small proof system, and contracts of functions, each proved. Conditions: as each theorem says.
-/
import Derived.Test.YtfhhggcdmgjbcaaT20
namespace Go.Proofs.Ytfhhggcdmgjbcaa.Sx
open Go

theorem or_byte {v c : Int} (h0 : 0 ≤ v) (h1 : v < 16777216) (hc0 : 0 ≤ c) (hc1 : c < 256) : bitsI .or .u32 (shlI .u32 v 8) (IntKind.u32.wrap c) = v * 256 + c := by
  have e1 : shlI .u32 v 8 = v * 256 := by
    unfold shlI
    rw [show min (8 : Int).toNat IntKind.u32.bits = 8 from rfl]
    rw [IntKind.wrap_u32]; omega
  have e2 : IntKind.u32.wrap c = c := by rw [IntKind.wrap_u32]; omega
  rw [e1, e2]
  obtain ⟨a, rfl⟩ := Int.eq_ofNat_of_zero_le h0
  obtain ⟨b, rfl⟩ := Int.eq_ofNat_of_zero_le hc0
  rw [show bitsI .or .u32 ((a : Int) * 256) (b : Int) = IntKind.u32.wrap (((BitVec.ofInt 32 ((a : Int) * 256) ||| BitVec.ofInt 32 (b : Int)).toNat : Nat) : Int) from rfl]
  rw [IntKind.wrap_u32, BitVec.toNat_or, BitVec.toNat_ofInt, BitVec.toNat_ofInt]
  have ha : (((a : Int) * 256) % ((2 ^ 32 : Nat) : Int)).toNat = a <<< 8 := by
    rw [Nat.shiftLeft_eq]; omega
  have hb : ((b : Int) % ((2 ^ 32 : Nat) : Int)).toNat = b := by omega
  rw [ha, hb, ← Nat.shiftLeft_add_eq_or_of_lt (by omega : b < 2 ^ 8), Nat.shiftLeft_eq]
  omega
theorem byteAt_range (n : Int) (m k : Nat) : 0 ≤ byteAt n m k ∧ byteAt n m k < 256 := by
  unfold byteAt; rw [IntKind.wrap_u8]; omega
theorem byteAt_eq {n : Int} (k : Nat) (hk : k < 4) : byteAt n 4 k = n / (2 ^ (8 * (3 - k))) % 256 := by
  unfold byteAt shrI
  rw [IntKind.wrap_u8, Int.fdiv_eq_ediv_of_nonneg _ (by exact Int.le_of_lt (Int.pow_pos (by omega)))]
  congr 2
  obtain rfl | rfl | rfl | rfl : k = 0 ∨ k = 1 ∨ k = 2 ∨ k = 3 := by omega
  all_goals rfl
theorem getTo4 (b0 b1 b2 b3 : Int) (r : List Int) (h0 : 0 ≤ b0 ∧ b0 < 256) (h1 : 0 ≤ b1 ∧ b1 < 256) (h2 : 0 ≤ b2 ∧ b2 < 256) (h3 : 0 ≤ b3 ∧ b3 < 256) :
    getTo (b0 :: b1 :: b2 :: b3 :: r) 4 = ((b0 * 256 + b1) * 256 + b2) * 256 + b3 := by
  have e0 : getTo (b0 :: b1 :: b2 :: b3 :: r) 1 = b0 := by
    show bitsI .or .u32 (shlI .u32 0 8) (IntKind.u32.wrap b0) = b0
    rw [or_byte (by omega) (by omega) h0.1 h0.2]; omega
  have e1 : getTo (b0 :: b1 :: b2 :: b3 :: r) 2 = b0 * 256 + b1 := by
    show bitsI .or .u32 (shlI .u32 (getTo (b0 :: b1 :: b2 :: b3 :: r) 1) 8) (IntKind.u32.wrap b1) = _
    rw [e0, or_byte (by omega) (by omega) h1.1 h1.2]
  have e2 : getTo (b0 :: b1 :: b2 :: b3 :: r) 3 = (b0 * 256 + b1) * 256 + b2 := by
    show bitsI .or .u32 (shlI .u32 (getTo (b0 :: b1 :: b2 :: b3 :: r) 2) 8) (IntKind.u32.wrap b2) = _
    rw [e1, or_byte (by omega) (by omega) h2.1 h2.2]
  show bitsI .or .u32 (shlI .u32 (getTo (b0 :: b1 :: b2 :: b3 :: r) 3) 8) (IntKind.u32.wrap b3) = _
  rw [e2, or_byte (by omega) (by omega) h3.1 h3.2]
theorem getN_putB {n : Int} (h0 : 0 ≤ n) (h1 : n ≤ 4294967295) (r : List Int) : getN (putB n ++ r) = n := by
  have hw : IntKind.u64.wrap n = n := by rw [IntKind.wrap_u64]; omega
  have hlen : ¬ (putB n ++ r).length < 4 := by simp [putB]
  unfold getN
  rw [if_neg hlen]
  show getTo (byteAt (IntKind.u64.wrap n) 4 0 :: byteAt (IntKind.u64.wrap n) 4 1 :: byteAt (IntKind.u64.wrap n) 4 2 :: byteAt (IntKind.u64.wrap n) 4 3 :: r) 4 = n
  rw [hw, getTo4 _ _ _ _ _ (byteAt_range ..) (byteAt_range ..) (byteAt_range ..) (byteAt_range ..), byteAt_eq 0 (by omega), byteAt_eq 1 (by omega), byteAt_eq 2 (by omega), byteAt_eq 3 (by omega)]
  simp only [Nat.sub_zero, Nat.reduceSub, Nat.reduceMul, Int.reducePow, Nat.reducePow]
  omega
theorem getH_hB {k g : Int} (hk1 : 1 ≤ k) (hk2 : k ≤ 1024) (hg0 : 0 ≤ g) (hg1 : g ≤ 4294967295) : getH (hB k g) = (k, g, 0) := by
  have e1 : getN ((hB k g).drop 4) = k := getN_putB (by omega) (by omega) (putB g ++ putB (sumS (hd k g)))
  have e2 : getN ((hB k g).drop 8) = g := getN_putB hg0 hg1 (putB (sumS (hd k g)))
  unfold getH
  rw [if_neg (by simp [hB, hd, putB]), e1, e2, if_neg (show ¬ (k < 1 ∨ 1024 < k ∨ hB k g ≠ hB k g) by intro h; rcases h with h | h | h; omega; omega; exact h rfl)]
theorem hB_range (k g : Int) : ∀ x ∈ hB k g, 0 ≤ x ∧ x < 256 := by
  intro x hx
  have hp : ∀ n, ∀ x ∈ putB n, 0 ≤ x ∧ x < 256 := by
    intro n x hx
    simp only [putB, List.mem_cons, List.not_mem_nil, or_false] at hx
    rcases hx with rfl | rfl | rfl | rfl <;> exact byteAt_range ..
  simp only [hB, hd, List.mem_append, List.mem_cons, List.not_mem_nil, or_false] at hx
  rcases hx with (((rfl | rfl | rfl | rfl) | hx) | hx) | hx
  · omega
  · omega
  · omega
  · omega
  · exact hp _ _ hx
  · exact hp _ _ hx
  · exact hp _ _ hx
theorem strOf_inj {xs ys : List Int} (hx : ∀ x ∈ xs, 0 ≤ x ∧ x < 256) (hy : ∀ y ∈ ys, 0 ≤ y ∧ y < 256) (h : strOf xs = strOf ys) : xs = ys := by
  have h1 : (xs.map fun n => UInt8.ofNat n.toNat) = ys.map fun n => UInt8.ofNat n.toNat := by
    have := congrArg (fun s : ByteArray => s.data.toList) h
    exact this
  have hl : xs.length = ys.length := by have := congrArg List.length h1; simpa using this
  apply List.ext_getElem hl
  intro i h2 h3
  have h4 : (xs.map fun n => UInt8.ofNat n.toNat)[i]? = (ys.map fun n => UInt8.ofNat n.toNat)[i]? := by rw [h1]
  simp only [List.getElem?_map, List.getElem?_eq_getElem h2, List.getElem?_eq_getElem h3, Option.map_some, Option.some.injEq] at h4
  have := congrArg UInt8.toNat h4
  have a := hx _ (List.getElem_mem h2)
  have b := hy _ (List.getElem_mem h3)
  simp only [UInt8.toNat_ofNat'] at this
  omega
end Go.Proofs.Ytfhhggcdmgjbcaa.Sx
