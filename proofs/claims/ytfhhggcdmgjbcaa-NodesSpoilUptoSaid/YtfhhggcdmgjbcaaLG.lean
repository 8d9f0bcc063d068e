/-
  A part of the walk of the seat: laws of a small proof system, and contracts of functions, each proved. Conditions: as each theorem says.
-/
import Derived.Test.YtfhhggcdmgjbcaaT19
namespace Go.Proofs.Ytfhhggcdmgjbcaa.Sx
open Go

structure Good (ns : List Node) (gen : Int) : Prop where
  len2 : 2 ≤ ns.length
  len : ns.length ≤ 1025
  k0 : (nd ns 0).kind = 0
  is1 : isS ns 1 2 = true
  any : anyBad ns = false
  b1 : ∀ m, m < (liv ns).length → bad1 ns gen m = false
  b2 : ∀ m, m < (liv ns).length → bad2 ns m = false
theorem good_of {ns : List Node} {gen : Int} (h : checkS ns gen = true) : Good ns gen := by
  unfold checkS at h
  cases hp : preBad ns with
  | true => rw [hp] at h; cases h
  | false =>
    cases ha : anyBad ns with
    | true => rw [hp, ha] at h; cases h
    | false =>
      rw [hp, ha] at h
      obtain ⟨h1, h2⟩ := and_t h
      have hp' := hp
      unfold preBad at hp'
      obtain ⟨hp', _⟩ := or_f hp'
      obtain ⟨hp', _⟩ := or_f hp'
      obtain ⟨hp', p4⟩ := or_f hp'
      obtain ⟨hp', p3⟩ := or_f hp'
      obtain ⟨p1, p2⟩ := or_f hp'
      have p1 := of_decide_eq_false p1
      have p2 := of_decide_eq_false p2
      exact ⟨by omega, by omega, by simpa using p3, by simpa using p4, ha, fun m hm => by simpa using List.all_eq_true.1 h1 m (List.mem_range.2 hm), fun m hm => by simpa using List.all_eq_true.1 h2 m (List.mem_range.2 hm)⟩
theorem liv_idx {ns : List Node} {k : Nat} (hk : k < ns.length) (h : (nd ns k).kind ≠ 0) : ∃ m, m < (liv ns).length ∧ lvi ns m = k := by
  have : k ∈ livTo ns ns.length := liv_mem.2 ⟨hk, h⟩
  obtain ⟨m, hm, he⟩ := List.mem_iff_getElem.1 this
  exact ⟨m, hm, by unfold lvi liv; rw [List.getD_eq_getElem?_getD, List.getElem?_eq_getElem hm]; exact he⟩
theorem there_iff {ns : List Node} {k : Nat} : thereS ns (k : Int) = true ↔ 0 < k ∧ k < ns.length ∧ (nd ns k).kind ≠ 0 := by
  unfold thereS
  simp only [Bool.and_eq_true, decide_eq_true_eq, Bool.not_eq_true', decide_eq_false_iff_not, Int.toNat_natCast]
  constructor
  · rintro ⟨⟨h1, h2⟩, h3⟩; exact ⟨by omega, by omega, h3⟩
  · rintro ⟨h1, h2, h3⟩; exact ⟨⟨by omega, by omega⟩, h3⟩
theorem namN_count {es : List Entry} {s : ByteArray} {j k : Nat} (hj : j < k) (h : (en es j).name = s) : 1 ≤ (look (namN es k) s).getD 0 := by
  induction k with
  | zero => omega
  | succ k ih =>
    simp only [namN, look_upd]
    by_cases e : s = (en es k).name
    · rw [if_pos e]
      have := (namN_range es k (en es k).name).1
      simp only [Option.getD_some]; omega
    · rw [if_neg e]
      have : j ≠ k := by rintro rfl; exact e h.symm
      exact ih (by omega)
theorem within_one {ns : List Node} (h : isS ns 1 2 = true) : withinS ns 1 1 = true := by
  unfold withinS ups
  simp only [upL, h, cond_true]
  simp
end Go.Proofs.Ytfhhggcdmgjbcaa.Sx
