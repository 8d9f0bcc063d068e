/-
  A part of the walk of the seat: laws of a small proof system, and contracts of functions, each proved. Conditions: as each theorem says.
-/
import Derived.Test.YtfhhggcdmgjbcaaT19
namespace Go.Proofs.Ytfhhggcdmgjbcaa.Sx
open Go

structure Good (ns : List Node) (gen : Int) : Prop where
  len2 : 2 ≤ ns.length
  len : ns.length ≤ 1025
  k0 : (nd ns 0).kind = 0
  is1 : isS ns 1 2 = true
  any : anyBad ns = false
  b1 : ∀ m, m < (liv ns).length → bad1 ns gen m = false
  b2 : ∀ m, m < (liv ns).length → bad2 ns m = false
theorem good_of {ns : List Node} {gen : Int} (h : checkS ns gen = true) : Good ns gen := by
  unfold checkS at h
  cases hp : preBad ns with
  | true => rw [hp] at h; cases h
  | false =>
    cases ha : anyBad ns with
    | true => rw [hp, ha] at h; cases h
    | false =>
      rw [hp, ha] at h
      obtain ⟨h1, h2⟩ := and_t h
      have hp' := hp
      unfold preBad at hp'
      obtain ⟨hp', _⟩ := or_f hp'
      obtain ⟨hp', _⟩ := or_f hp'
      obtain ⟨hp', p4⟩ := or_f hp'
      obtain ⟨hp', p3⟩ := or_f hp'
      obtain ⟨p1, p2⟩ := or_f hp'
      have p1 := of_decide_eq_false p1
      have p2 := of_decide_eq_false p2
      exact ⟨by omega, by omega, by simpa using p3, by simpa using p4, ha, fun m hm => by simpa using List.all_eq_true.1 h1 m (List.mem_range.2 hm), fun m hm => by simpa using List.all_eq_true.1 h2 m (List.mem_range.2 hm)⟩
theorem liv_idx {ns : List Node} {k : Nat} (hk : k < ns.length) (h : (nd ns k).kind ≠ 0) : ∃ m, m < (liv ns).length ∧ lvi ns m = k := by
  have : k ∈ livTo ns ns.length := liv_mem.2 ⟨hk, h⟩
  obtain ⟨m, hm, he⟩ := List.mem_iff_getElem.1 this
  exact ⟨m, hm, by unfold lvi liv; rw [List.getD_eq_getElem?_getD, List.getElem?_eq_getElem hm]; exact he⟩
theorem there_iff {ns : List Node} {k : Nat} : thereS ns (k : Int) = true ↔ 0 < k ∧ k < ns.length ∧ (nd ns k).kind ≠ 0 := by
  unfold thereS
  simp only [Bool.and_eq_true, decide_eq_true_eq, Bool.not_eq_true', decide_eq_false_iff_not, Int.toNat_natCast]
  constructor
  · rintro ⟨⟨h1, h2⟩, h3⟩; exact ⟨by omega, by omega, h3⟩
  · rintro ⟨h1, h2, h3⟩; exact ⟨⟨by omega, by omega⟩, h3⟩
theorem namN_count {es : List Entry} {s : ByteArray} {j k : Nat} (hj : j < k) (h : (en es j).name = s) : 1 ≤ (look (namN es k) s).getD 0 := by
  induction k with
  | zero => omega
  | succ k ih =>
    simp only [namN, look_upd]
    by_cases e : s = (en es k).name
    · rw [if_pos e]
      have := (namN_range es k (en es k).name).1
      simp only [Option.getD_some]; omega
    · rw [if_neg e]
      have : j ≠ k := by rintro rfl; exact e h.symm
      exact ih (by omega)
theorem within_one {ns : List Node} (h : isS ns 1 2 = true) : withinS ns 1 1 = true := by
  unfold withinS ups
  simp only [upL, h, cond_true]
  simp
end Go.Proofs.Ytfhhggcdmgjbcaa.Sx

namespace Go.Proofs.Ytfhhggcdmgjbcaa.Sx
open Go

section
variable {ns ns' : List Node}
/-- what only reads kinds and lists -/
structure Alike (ns ns' : List Node) : Prop where
  len : ns'.length = ns.length
  kind : ∀ i, (nd ns' i).kind = (nd ns i).kind
  list : ∀ i, (nd ns' i).list = (nd ns i).list
theorem Alike.there (h : Alike ns ns') (n : Int) : thereS ns' n = thereS ns n := by unfold thereS; rw [h.len, h.kind]
theorem Alike.is (h : Alike ns ns') (n k : Int) : isS ns' n k = isS ns n k := by unfold isS; rw [h.there, h.kind]
theorem Alike.livTo (h : Alike ns ns') (k : Nat) : livTo ns' k = livTo ns k := by
  induction k with
  | zero => rfl
  | succ k ih => simp only [Sx.livTo, ih, h.kind]
theorem Alike.liv (h : Alike ns ns') : liv ns' = liv ns := by unfold Sx.liv; rw [h.len, h.livTo]
theorem Alike.lvi (h : Alike ns ns') (m : Nat) : lvi ns' m = lvi ns m := by unfold Sx.lvi; rw [h.liv]
theorem Alike.lvnList (h : Alike ns ns') (m : Nat) : (lvn ns' m).list = (lvn ns m).list := by unfold lvn; rw [h.lvi, h.list]
theorem Alike.entN (h : Alike ns ns') (i : Nat) (es : List Entry) (st : St) (k : Nat) : entN ns' i es st k = entN ns i es st k := by
  induction k with
  | zero => rfl
  | succ k ih => simp only [Sx.entN, entStep, ih, h.is]
theorem Alike.chkN (h : Alike ns ns') (m : Nat) : chkN ns' m = chkN ns m := by
  induction m with
  | zero => simp only [Sx.chkN, h.len]
  | succ m ih => simp only [Sx.chkN, ih, h.lvi, h.lvnList, h.entN]
theorem Alike.nameN (h : Alike ns ns') (m : Nat) : nameN ns' m = nameN ns m := by unfold Sx.nameN; rw [h.chkN, h.liv, h.lvi]
theorem Alike.subsN (h : Alike ns ns') (m : Nat) : subsN ns' m = subsN ns m := by unfold Sx.subsN; rw [h.chkN, h.liv, h.lvi]
end
section
variable {ns : List Node} {gen : Int}
theorem only_of (hg : Good ns gen) {k : Nat} (hk : k < ns.length) : onlyS (nd ns k) = true := by
  have := List.any_eq_false.1 hg.any k (List.mem_range.2 hk)
  simpa using this
theorem only_dir {n : Node} (h : onlyS n = true) (hl : 0 < n.list.length) : n.kind = 2 := by
  have hk0 : ¬ (n.list.length : Int) = 0 := by omega
  have hl : listS n = false := by unfold listS; rw [decide_eq_false hk0]; rfl
  unfold onlyS at h
  rw [hl] at h
  by_cases e0 : n.kind = 0
  · simp [e0] at h
  · by_cases e1 : n.kind = 1
    · simp [e1] at h
    · by_cases e5 : n.kind = 5
      · simp [e5] at h
      · simp [e0, e1, e5] at h; exact h.1.1
theorem lvn_at {m k : Nat} (h : lvi ns m = k) : lvn ns m = nd ns k := by unfold lvn; rw [h]
theorem entries_of (hg : Good ns gen) {m : Nat} (hm : m < (liv ns).length) (hk : (lvn ns m).kind = 2) : entriesS ns (lvn ns m) = true := by
  have h2 := hg.b1 m hm
  unfold bad1 at h2
  have := (or_f h2).2
  simpa [hk] using this
theorem list_short (hg : Good ns gen) {k : Nat} (hk : k < ns.length) : (nd ns k).list.length ≤ 1024 := by
  rcases Nat.eq_zero_or_pos (nd ns k).list.length with h | h
  · omega
  · have hd := only_dir (only_of hg hk) h
    obtain ⟨m, hm, hmk⟩ := liv_idx hk (by rw [hd]; decide)
    have he := entries_of hg hm (by rw [lvn_at hmk]; exact hd)
    rw [lvn_at hmk] at he
    unfold entriesS at he
    cases h3 : decide (1024 < ((nd ns k).list.length : Int)) with
    | true => rw [h3] at he; simp at he
    | false => have := of_decide_eq_false h3; omega
theorem gens_count {m k : Nat} {s : Int} (hj : m < k) (h : (lvn ns m).gen = s) : 1 ≤ (look (gensN ns k) s).getD 0 := by
  induction k with
  | zero => omega
  | succ k ih =>
    simp only [gensN, look_upd]
    by_cases e : s = (lvn ns k).gen
    · rw [if_pos e]
      have := (gensN_range ns k (lvn ns k).gen).1
      simp only [Option.getD_some]; omega
    · rw [if_neg e]
      have : m ≠ k := by rintro rfl; exact e h.symm
      exact ih (by omega)
theorem gens_two (hg : Good ns gen) {a b : Nat} (ha : a < b) (hb : b < (liv ns).length) : (lvn ns a).gen ≠ (lvn ns b).gen := by
  intro e
  have h1 := gens_count ha e
  have h2 := hg.b1 b hb
  unfold bad1 at h2
  obtain ⟨h2, _⟩ := or_f h2
  obtain ⟨h2, _⟩ := or_f h2
  obtain ⟨h2, _⟩ := or_f h2
  obtain ⟨h2, _⟩ := or_f h2
  obtain ⟨h2, _⟩ := or_f h2
  obtain ⟨_, h2⟩ := or_f h2
  have h3 := of_decide_eq_false h2
  have h4 : (look (gensN ns (b + 1)) (lvn ns b).gen).getD 0 = (look (gensN ns b) (lvn ns b).gen).getD 0 + 1 := by
    simp only [gensN, look_upd, if_true, Option.getD_some]
  omega
theorem ups_self {k : Nat} (hp : (nd ns k).parent = (k : Int)) : ∀ f, ∀ x ∈ upL ns f (k : Int), x = (k : Int) := by
  intro f
  induction f with
  | zero => intro x hx; simp [upL] at hx
  | succ f ih =>
    intro x hx
    simp only [upL, Int.toNat_natCast, hp] at hx
    cases h1 : isS ns (k : Int) 2 with
    | false => rw [h1] at hx; simp at hx
    | true =>
      rw [h1] at hx
      simp only [cond_true, List.mem_cons] at hx
      rcases hx with hx | hx
      · exact hx
      · cases h2 : decide ((k : Int) = 1) with
        | true => rw [h2] at hx; simp at hx
        | false => rw [h2] at hx; exact ih x hx
theorem bad2_dir (hg : Good ns gen) {m k : Nat} (hm : m < (liv ns).length) (hmk : lvi ns m = k) (hk : (nd ns k).kind = 2) :
    (nd ns k).links = 2 + subsN ns m ∧ (1 < k → nameN ns m = 1 ∧ homeN ns m = (nd ns k).parent ∧ withinS ns (k : Int) 1 = true) := by
  have h := hg.b2 m hm
  unfold bad2 at h
  rw [lvn_at hmk, decide_eq_true hk, cond_true, hmk] at h
  obtain ⟨h1, h2⟩ := or_f h
  refine ⟨by simpa using h1, fun h3 => ?_⟩
  rw [decide_eq_true (show 1 < (k : Int) by omega), Bool.true_and] at h2
  obtain ⟨h4, h5⟩ := or_f h2
  obtain ⟨h6, h7⟩ := or_f h4
  exact ⟨by simpa using h6, by simpa using h7, by simpa using h5⟩
theorem bad2_other (hg : Good ns gen) {m k : Nat} (hm : m < (liv ns).length) (hmk : lvi ns m = k) (hk : (nd ns k).kind ≠ 2) : (nd ns k).links = nameN ns m ∧ 1 ≤ nameN ns m ∧ nameN ns m ≤ 200 := by
  have h := hg.b2 m hm
  unfold bad2 at h
  rw [lvn_at hmk, decide_eq_false hk, cond_false] at h
  obtain ⟨h1, h2⟩ := or_f h
  obtain ⟨h3, h4⟩ := or_f h1
  have h4 := of_decide_eq_false h4
  have h2 := of_decide_eq_false h2
  exact ⟨by simpa using h3, by omega, by omega⟩
theorem wrap_ne (x : Int) : IntKind.i64.wrap (x + 1) ≠ x := by
  unfold IntKind.wrap; simp [IntKind.bits, IntKind.signed]; omega
theorem set_same {ns : List Node} {k : Nat} {n : Node} (hk : k < ns.length) : nd (ns.set k n) k = n := by rw [nd_set hk, if_pos rfl]
theorem set_other {ns : List Node} {k i : Nat} {n : Node} (hk : k < ns.length) (h : i ≠ k) : nd (ns.set k n) i = nd ns i := by rw [nd_set hk, if_neg (Ne.symm h)]
end
end Go.Proofs.Ytfhhggcdmgjbcaa.Sx
