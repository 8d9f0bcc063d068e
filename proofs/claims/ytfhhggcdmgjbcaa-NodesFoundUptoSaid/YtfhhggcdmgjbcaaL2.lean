/-
  A part of the walk of the seat: laws of a small proof system, and contracts of functions, each proved. Conditions: as each theorem says.
-/
import Derived.Test.YtfhhggcdmgjbcaaL1
namespace Go.Proofs.Ytfhhggcdmgjbcaa.Sx
open Go

structure Good (ns : List Node) (gen : Int) : Prop where
  len2 : 2 ≤ ns.length
  len : ns.length ≤ 1025
  k0 : (nd ns 0).kind = 0
  is1 : isS ns 1 2 = true
  any : anyBad ns = false
  b1 : ∀ m, m < (liv ns).length → bad1 ns gen m = false
  b2 : ∀ m, m < (liv ns).length → bad2 ns m = false
theorem good_of {ns : List Node} {gen : Int} (h : checkS ns gen = true) : Good ns gen := by
  unfold checkS at h
  cases hp : preBad ns with
  | true => rw [hp] at h; cases h
  | false =>
    cases ha : anyBad ns with
    | true => rw [hp, ha] at h; cases h
    | false =>
      rw [hp, ha] at h
      obtain ⟨h1, h2⟩ := and_t h
      have hp' := hp
      unfold preBad at hp'
      obtain ⟨hp', _⟩ := or_f hp'
      obtain ⟨hp', _⟩ := or_f hp'
      obtain ⟨hp', p4⟩ := or_f hp'
      obtain ⟨hp', p3⟩ := or_f hp'
      obtain ⟨p1, p2⟩ := or_f hp'
      have p1 := of_decide_eq_false p1
      have p2 := of_decide_eq_false p2
      exact ⟨by omega, by omega, by simpa using p3, by simpa using p4, ha, fun m hm => by simpa using List.all_eq_true.1 h1 m (List.mem_range.2 hm), fun m hm => by simpa using List.all_eq_true.1 h2 m (List.mem_range.2 hm)⟩
theorem liv_idx {ns : List Node} {k : Nat} (hk : k < ns.length) (h : (nd ns k).kind ≠ 0) : ∃ m, m < (liv ns).length ∧ lvi ns m = k := by
  have : k ∈ livTo ns ns.length := liv_mem.2 ⟨hk, h⟩
  obtain ⟨m, hm, he⟩ := List.mem_iff_getElem.1 this
  exact ⟨m, hm, by unfold lvi liv; rw [List.getD_eq_getElem?_getD, List.getElem?_eq_getElem hm]; exact he⟩
theorem there_iff {ns : List Node} {k : Nat} : thereS ns (k : Int) = true ↔ 0 < k ∧ k < ns.length ∧ (nd ns k).kind ≠ 0 := by
  unfold thereS
  simp only [Bool.and_eq_true, decide_eq_true_eq, Bool.not_eq_true', decide_eq_false_iff_not, Int.toNat_natCast]
  constructor
  · rintro ⟨⟨h1, h2⟩, h3⟩; exact ⟨by omega, by omega, h3⟩
  · rintro ⟨h1, h2, h3⟩; exact ⟨⟨by omega, by omega⟩, h3⟩
theorem namN_count {es : List Entry} {s : ByteArray} {j k : Nat} (hj : j < k) (h : (en es j).name = s) : 1 ≤ (look (namN es k) s).getD 0 := by
  induction k with
  | zero => omega
  | succ k ih =>
    simp only [namN, look_upd]
    by_cases e : s = (en es k).name
    · rw [if_pos e]
      have := (namN_range es k (en es k).name).1
      simp only [Option.getD_some]; omega
    · rw [if_neg e]
      have : j ≠ k := by rintro rfl; exact e h.symm
      exact ih (by omega)
theorem within_one {ns : List Node} (h : isS ns 1 2 = true) : withinS ns 1 1 = true := by
  unfold withinS ups
  simp only [upL, h, cond_true]
  simp
section
variable {ns : List Node} {gen : Int} (hg : Good ns gen) (hW : NodesWf ns)
include hg
theorem there_not {k : Nat} (hk : k < ns.length) : thereS ns (k : Int) = (!decide ((nd ns k).kind = 0)) := by
  rw [Bool.eq_iff_iff, there_iff]
  simp only [Bool.not_eq_true', decide_eq_false_iff_not]
  constructor
  · exact fun h => h.2.2
  · intro h
    refine ⟨?_, hk, h⟩
    rcases Nat.eq_zero_or_pos k with rfl | h0
    · exact absurd hg.k0 h
    · exact h0
theorem hdl_t {k : Nat} (h : thereS ns (k : Int) = true) : hdlE ns (k : Int) = 0 ∧ hdlB ns (k : Int) = hB (k : Int) (nd ns k).gen := by
  have hk := there_iff.1 h
  have h2 : decide (1024 < (k : Int)) = false := decide_eq_false (by have := hg.len; omega)
  unfold hdlE hdlB
  rw [h, h2]
  exact ⟨rfl, by simp⟩
omit hg in
theorem hdl_f {k : Nat} (h : thereS ns (k : Int) = false) : hdlE ns (k : Int) = 1 := by
  unfold hdlE
  rw [h]; rfl
include hW
theorem find_ok {k : Nat} (h : thereS ns (k : Int) = true) : findS ns (hdlB ns (k : Int)) = ((k : Int), 0) := by
  have hk := there_iff.1 h
  have hl := hg.len
  have hn := hW.node k
  rw [(hdl_t hg h).2]
  unfold findS
  rw [getH_hB (by omega) (by omega) hn.gen0 hn.gen1]
  simp [h]
theorem seen_ne {k : Nat} (h : thereS ns (k : Int) = true) : (look (seenN ns k) (strOf (hdlB ns (k : Int)))).getD 0 ≠ 1 := by
  have key : ∀ m, m ≤ k → (look (seenN ns m) (strOf (hdlB ns (k : Int)))).getD 0 = 0 := by
    intro m
    induction m with
    | zero => intro _; rfl
    | succ m ih =>
      intro hm
      simp only [seenN]
      cases ht : thereS ns (m : Int) with
      | false => simpa using ih (by omega)
      | true =>
        simp only [cond_true, look_upd]
        by_cases e : strOf (hdlB ns (k : Int)) = strOf (hdlB ns (m : Int))
        · exfalso
          have e1 : hdlB ns (k : Int) = hdlB ns (m : Int) := by
            rw [(hdl_t hg h).2, (hdl_t hg ht).2] at e ⊢
            exact strOf_inj (hB_range _ _) (hB_range _ _) e
          have e2 := find_ok hg hW h
          have e3 := find_ok hg hW ht
          rw [e1, e3] at e2
          have := congrArg Prod.fst e2
          simp only at this
          omega
        · rw [if_neg e]; exact ih (by omega)
  rw [key k (Nat.le_refl k)]; omega
omit hW in
theorem entry_ok {k i : Nat} (hk : k < ns.length) (h : thereS ns (k : Int) = true) (hi : i < (nd ns k).list.length) : entryS ns (k : Int) (en (nd ns k).list i).name = (en (nd ns k).list i).node := by
  obtain ⟨m, hm, hmk⟩ := liv_idx hk (there_iff.1 h).2.2
  have hln : lvn ns m = nd ns k := by unfold lvn; rw [hmk]
  have hth := ent_there hg.any hm (hg.b1 m hm) (k := i) (by rw [hln]; exact hi)
  have ho : onlyS (nd ns k) = true := by
    have := List.any_eq_false.1 hg.any k (List.mem_range.2 hk)
    simpa using this
  have hk0 : ¬ ((nd ns k).list.length : Int) = 0 := by omega
  have hl : listS (nd ns k) = false := by unfold listS; rw [decide_eq_false hk0]; rfl
  have hkind : (nd ns k).kind = 2 := by
    unfold onlyS at ho
    rw [hl] at ho
    by_cases e0 : (nd ns k).kind = 0
    · simp [e0] at ho
    · by_cases e1 : (nd ns k).kind = 1
      · simp [e1] at ho
      · by_cases e5 : (nd ns k).kind = 5
        · simp [e5] at ho
        · simp [e0, e1, e5] at ho; exact ho.1.1
  have he : entriesS ns (nd ns k) = true := by
    have h2 := hg.b1 m hm
    unfold bad1 at h2
    have := (or_f h2).2
    rw [hln] at this
    simpa [hkind] using this
  have hb : ∀ q, q < (nd ns k).list.length → badE ns (nd ns k) q = false := by
    intro q hq
    cases hb : badE ns (nd ns k) q with
    | false => rfl
    | true => rw [entriesS_bad hq hb] at he; cases he
  have hbi := hb i hi
  unfold badE at hbi
  obtain ⟨hbi, _⟩ := or_f hbi
  obtain ⟨hbi, _⟩ := or_f hbi
  obtain ⟨hbi, hdots⟩ := or_f hbi
  obtain ⟨hbi, hdot⟩ := or_f hbi
  obtain ⟨hbi, _⟩ := or_f hbi
  obtain ⟨_, hcnt⟩ := or_f hbi
  have hcnt := of_decide_eq_false hcnt
  have hno : ∀ j, j < i → (en (nd ns k).list j).name ≠ (en (nd ns k).list i).name := by
    intro j hj e
    have h1 := namN_count (es := (nd ns k).list) hj e
    have h2 : (look (namN (nd ns k).list (i + 1)) (en (nd ns k).list i).name).getD 0 = (look (namN (nd ns k).list i) (en (nd ns k).list i).name).getD 0 + 1 := by
      simp only [namN, look_upd, if_true, Option.getD_some]
    omega
  have hidx := idxE_some hi rfl hno
  unfold entryS
  have his : isS ns (k : Int) 2 = true := by unfold isS; rw [h]; simp [hkind]
  rw [his, show dot = ⟨#[46]⟩ from rfl, show dots = ⟨#[46, 46]⟩ from rfl, hdot, hdots]
  simp only [Bool.not_true, cond_false, Int.toNat_natCast, hidx]
  rw [decide_eq_false (by omega)]
  simp
theorem found_of' : Found ns gen := by
  refine ⟨fun k hk => ?_, fun k hk h => ?_, fun k hk h => ?_, fun k i hk h hi => ?_, fun k h hk => ?_⟩
  · rw [there_not hg hk]
    cases ht : thereS ns (k : Int) with
    | true => rw [(hdl_t hg ht).1, ← there_not hg hk, ht]; rfl
    | false => rw [hdl_f ht, ← there_not hg hk, ht]; rfl
  · have h1 := find_ok hg hW h
    have h2 := seen_ne hg hW h
    rw [h1]
    have h3 : attrID ns (k : Int) = IntKind.u64.wrap (k : Int) := by unfold attrID; rw [h]; rfl
    rw [h3, decide_eq_false h2]
    simp
  · have hk2 : attrKind ns (k : Int) = (nd ns k).kind := by unfold attrKind; rw [h]; simp
    rw [hk2]
    by_cases e : (nd ns k).kind = 2
    · obtain ⟨m, hm, hmk⟩ := liv_idx hk (there_iff.1 h).2.2
      have hln : lvn ns m = nd ns k := by unfold lvn; rw [hmk]
      have hw : withinS ns (k : Int) 1 = true := by
        have hb := hg.b2 m hm
        unfold bad2 at hb
        rw [hln, decide_eq_true e, cond_true, hmk] at hb
        have h2 := (or_f hb).2
        have h0 := (there_iff.1 h).1
        by_cases e1 : k = 1
        · subst e1; exact within_one hg.is1
        · rw [decide_eq_true (show 1 < (k : Int) by omega), Bool.true_and] at h2
          simpa using (or_f h2).2
      rw [hw]; simp
    · rw [decide_eq_false e]; rfl
  · rw [entry_ok hg hk h hi]; simp
  · rw [(hdl_t hg h).2]; rfl
end
theorem found_of {ns : List Node} {gen : Int} (hW : NodesWf ns) (h : checkS ns gen = true) : Found ns gen := found_of' (good_of h) hW
end Go.Proofs.Ytfhhggcdmgjbcaa.Sx
