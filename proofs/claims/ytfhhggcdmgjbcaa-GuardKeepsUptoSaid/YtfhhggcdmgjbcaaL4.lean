/-
  A part of the walk of the seat: laws of a small proof system, and contracts of functions, each proved. Conditions: as each theorem says.
-/
import Derived.Test.YtfhhggcdmgjbcaaT34
import Derived.Test.YtfhhggcdmgjbcaaLawA
namespace Go.Proofs.Ytfhhggcdmgjbcaa.Sx
open Go

/-- a node turned so that a tree stays a tree -/
structure Mild (m n' : Node) : Prop where
  kind : n'.kind = m.kind
  gen : n'.gen = m.gen
  links : n'.links = m.links
  target : n'.target = m.target
  list : n'.list = m.list
  parent : n'.parent = m.parent
  next : n'.next = m.next
  verf : n'.verf = m.verf
  mode : n'.mode ≤ 4095
  rn : n'.rn < 1000000000
  wn : n'.wn < 1000000000
  tn : n'.tn < 1000000000
  data1 : m.kind = 1 → (n'.data.length : Int) ≤ 65536
  data2 : m.kind ≠ 1 → n'.data = m.data
section
variable {ns ns' : List Node} {gen : Int}
theorem Alike.upL (h : Alike ns ns') (hp : ∀ i, (nd ns' i).parent = (nd ns i).parent) (f : Nat) : ∀ d, upL ns' f d = upL ns f d := by
  induction f with
  | zero => intro d; rfl
  | succ f ih => intro d; simp only [Sx.upL, h.is, hp, ih]
theorem Alike.within (h : Alike ns ns') (hp : ∀ i, (nd ns' i).parent = (nd ns i).parent) (a b : Int) : withinS ns' a b = withinS ns a b := by
  unfold withinS ups; rw [h.len, h.upL hp]
theorem Alike.entries (h : Alike ns ns') {d d' : Node} (hl : d'.list = d.list) (hn : d'.next = d.next) : entriesS ns' d' = entriesS ns d := by
  have hb : ∀ k, badE ns' d' k = badE ns d k := by intro k; unfold badE; rw [hl, hn, h.there]
  unfold entriesS; rw [hl, hn]; simp only [hb]
theorem Alike.gensN (h : Alike ns ns') (hg : ∀ i, (nd ns' i).gen = (nd ns i).gen) (m : Nat) : gensN ns' m = gensN ns m := by
  induction m with
  | zero => rfl
  | succ m ih =>
    have : (lvn ns' m).gen = (lvn ns m).gen := by unfold lvn; rw [h.lvi, hg]
    simp only [Sx.gensN, ih, this]
theorem check_mild (h : checkS ns gen = true) {k : Nat} {n' : Node} (hk : k < ns.length) (hk0 : (nd ns k).kind ≠ 0) (hM : Mild (nd ns k) n') : checkS (ns.set k n') gen = true := by
  have hg := good_of h
  have pres : ∀ {α : Type} (f : Node → α), f n' = f (nd ns k) → ∀ i, f (nd (ns.set k n') i) = f (nd ns i) := by
    intro α f hf i
    rw [nd_set hk]
    split
    · rename_i e; subst e; exact hf
    · rfl
  have hA : Alike ns (ns.set k n') := ⟨by simp, pres _ hM.kind, pres _ hM.list⟩
  have hp := pres (·.parent) hM.parent
  have hgen := pres (·.gen) hM.gen
  have hln := pres (·.links) hM.links
  have hnx := pres (·.next) hM.next
  have hpre : preBad (ns.set k n') = false := by
    have h0 : preBad ns = false := by
      unfold checkS at h
      cases hp : preBad ns with
      | true => rw [hp] at h; cases h
      | false => rfl
    have hp1 : (nd (ns.set k n') 1).parent = (nd ns 1).parent := hp 1
    unfold preBad at h0 ⊢
    rw [hA.len, hA.kind, hA.is, hp1, hA.there]; exact h0
  refine checkS_t hpre ?_ (fun m hm => ?_) (fun m hm => ?_)
  · refine anyBad_f fun i hi => ?_
    rw [List.length_set] at hi
    have ho := only_of hg hi
    rw [nd_set hk]
    split
    · rename_i e
      subst e
      have hls : listS n' = listS (nd ns k) := by unfold listS; rw [hM.list, hM.parent, hM.next]
      unfold onlyS at ho ⊢
      rw [hM.kind, hM.target, hls]
      rw [decide_eq_false hk0] at ho ⊢
      simp only [cond_false] at ho ⊢
      by_cases e1 : (nd ns k).kind = 1
      · rw [decide_eq_true e1] at ho ⊢
        simp only [cond_true] at ho ⊢
        rw [(and_t ho).1, decide_eq_true (hM.data1 e1)]; rfl
      · have hf : fileS n' = fileS (nd ns k) := by unfold fileS; rw [hM.data2 e1, hM.verf]
        rw [hf]
        rw [decide_eq_false e1] at ho ⊢
        simp only [cond_false] at ho ⊢
        simpa using ho
    · simpa using ho
  · rw [hA.liv] at hm
    have hb := hg.b1 m hm
    have hlist : (lvn (ns.set k n') m).list = (lvn ns m).list := hA.lvnList m
    have hnext : (lvn (ns.set k n') m).next = (lvn ns m).next := by unfold lvn; rw [hA.lvi, hnx]
    have hge : (lvn (ns.set k n') m).gen = (lvn ns m).gen := by unfold lvn; rw [hA.lvi, hgen]
    have hkd : (lvn (ns.set k n') m).kind = (lvn ns m).kind := by unfold lvn; rw [hA.lvi, hA.kind]
    unfold bad1 at hb ⊢
    rw [hA.gensN hgen, hge, hkd, hA.entries hlist hnext]
    obtain ⟨hb, b7⟩ := or_f hb
    obtain ⟨hb, b6⟩ := or_f hb
    obtain ⟨hb, b5⟩ := or_f hb
    obtain ⟨hb, b4⟩ := or_f hb
    obtain ⟨hb, b3⟩ := or_f hb
    obtain ⟨b1, b2⟩ := or_f hb
    rw [b1, b2, b7]
    by_cases e : lvi ns m = k
    · have hn : lvn (ns.set k n') m = n' := by unfold lvn; rw [hA.lvi, e, set_same hk]
      rw [hn, decide_eq_false (show ¬ 4095 < n'.mode from by have := hM.mode; omega), decide_eq_true hM.rn, decide_eq_true hM.wn, decide_eq_true hM.tn]; rfl
    · have hn : lvn (ns.set k n') m = lvn ns m := by unfold lvn; rw [hA.lvi, set_other hk e]
      rw [hn, b3, b4, b5, b6]; rfl
  · rw [hA.liv] at hm
    have hb := hg.b2 m hm
    have hkd : (lvn (ns.set k n') m).kind = (lvn ns m).kind := by unfold lvn; rw [hA.lvi, hA.kind]
    have hl : (lvn (ns.set k n') m).links = (lvn ns m).links := by unfold lvn; rw [hA.lvi, hln]
    have hpa : (lvn (ns.set k n') m).parent = (lvn ns m).parent := by unfold lvn; rw [hA.lvi, hp]
    have hh : homeN (ns.set k n') m = homeN ns m := by unfold homeN; rw [hA.chkN, hA.liv, hA.lvi]
    unfold bad2 at hb ⊢
    rw [hkd, hl, hpa, hh, hA.subsN, hA.nameN, hA.lvi, hA.within hp]
    exact hb
end
/-! ### What is set -/
structure SetWf (s : SetD) : Prop where
  mode : U32 s.mode
  user : U32 s.user
  group : U32 s.group
  size : 0 ≤ s.size
  rs : U32 s.rs
  rn : U32 s.rn
  ws : U32 s.ws
  wn : U32 s.wn
/-- what was asked fits the node -/
structure SetOk (s : SetD) (b : Int) (m : Node) : Prop where
  mode : s.hm = true → s.mode ≤ 4095
  b : b < 1000000000
  r : s.rh = 2 → s.rn < 1000000000
  w : s.wh = 2 → s.wn < 1000000000
  size : s.hs = true → m.kind = 1 ∧ s.size ≤ 65536
theorem told_mild {m n : Node} {a b : Int} (h : Mild m n) (hb : b < 1000000000) (t : Bool) : Mild m (cond t ({ n with ts := a, tn := b } : Node) n) := by
  cases t
  · exact h
  · exact { h with tn := hb }
theorem deedQ_mild {s : SetD} {a b : Int} {m n : Node} (hs0 : 0 ≤ s.size) (ho : SetOk s b m) (h : Mild m n) (q : Nat) : Mild m (deedQ s a b q n) := by
  rcases q with _ | _ | _ | _ | _ | q
  · show Mild m (deed1 s n)
    unfold deed1
    cases e : s.hm
    · exact h
    · exact { h with mode := ho.mode e }
  · show Mild m (deed2 s n)
    unfold deed2
    cases e : s.hu
    · exact h
    · exact { h with }
  · show Mild m (deed3 s n)
    unfold deed3
    cases e : s.hg
    · exact h
    · exact { h with }
  · show Mild m (deed4 s a b n)
    unfold deed4
    cases e : s.hs
    · exact h
    · have := ho.size e
      exact { h with wn := ho.b, data1 := fun _ => by show ((resize n.data s.size.toNat).length : Int) ≤ 65536; rw [resize_length]; omega, data2 := fun hk => absurd this.1 hk }
  · show Mild m (deed5 s a b n)
    unfold deed5
    cases e : decide (s.rh = 2)
    · cases e2 : decide (s.rh = 1)
      · exact h
      · exact { h with rn := ho.b }
    · exact { h with rn := ho.r (of_decide_eq_true e) }
  · show Mild m (deed6 s a b n)
    unfold deed6
    cases e : decide (s.wh = 2)
    · cases e2 : decide (s.wh = 1)
      · exact h
      · exact { h with wn := ho.b }
    · exact { h with wn := ho.w (of_decide_eq_true e) }
theorem setN_mild {s : SetD} {a b : Int} {m : Node} (hs0 : 0 ≤ s.size) (ho : SetOk s b m) (h : Mild m m) (q : Nat) : Mild m (setN s a b m q) := by
  induction q with
  | zero => exact h
  | succ q ih => exact told_mild (deedQ_mild hs0 ho ih q) ho.b _
theorem told_wf {n : Node} {a b : Int} (h : NodeWf n) (ha : U32 a) (hb : U32 b) (t : Bool) : NodeWf (cond t ({ n with ts := a, tn := b } : Node) n) := by
  cases t
  · exact h
  · obtain ⟨u1, u2, u3, u4, u5, u6, u7, u8, u9⟩ := h.u
    exact { h with u := ⟨u1, u2, u3, u4, u5, u6, u7, ha, hb⟩ }
theorem deedQ_wf {s : SetD} {a b : Int} {m n : Node} (hw : SetWf s) (ha : U32 a) (hb : U32 b) (ho : SetOk s b m) (h : NodeWf n) (q : Nat) : NodeWf (deedQ s a b q n) := by
  obtain ⟨u1, u2, u3, u4, u5, u6, u7, u8, u9⟩ := h.u
  rcases q with _ | _ | _ | _ | _ | q
  · show NodeWf (deed1 s n)
    unfold deed1
    cases e : s.hm
    · exact h
    · exact { h with u := ⟨hw.mode, u2, u3, u4, u5, u6, u7, u8, u9⟩ }
  · show NodeWf (deed2 s n)
    unfold deed2
    cases e : s.hu
    · exact h
    · exact { h with u := ⟨u1, hw.user, u3, u4, u5, u6, u7, u8, u9⟩ }
  · show NodeWf (deed3 s n)
    unfold deed3
    cases e : s.hg
    · exact h
    · exact { h with u := ⟨u1, u2, hw.group, u4, u5, u6, u7, u8, u9⟩ }
  · show NodeWf (deed4 s a b n)
    unfold deed4
    cases e : s.hs
    · exact h
    · have h2 := (ho.size e).2
      have h0 := hw.size
      refine { h with data := (by show (resize n.data s.size.toNat).length ≤ _; rw [resize_length]; omega), u := ⟨u1, u2, u3, u4, u5, ha, hb, u8, u9⟩, bytes := fun x hx => ?_ }
      have hx' : x ∈ n.data.take s.size.toNat ++ List.replicate (s.size.toNat - n.data.length) 0 := hx
      rcases List.mem_append.1 hx' with hx1 | hx1
      · exact h.bytes x (List.mem_of_mem_take hx1)
      · have := (List.mem_replicate.1 hx1).2; omega
  · show NodeWf (deed5 s a b n)
    unfold deed5
    cases e : decide (s.rh = 2)
    · cases e2 : decide (s.rh = 1)
      · exact h
      · exact { h with u := ⟨u1, u2, u3, ha, hb, u6, u7, u8, u9⟩ }
    · exact { h with u := ⟨u1, u2, u3, hw.rs, hw.rn, u6, u7, u8, u9⟩ }
  · show NodeWf (deed6 s a b n)
    unfold deed6
    cases e : decide (s.wh = 2)
    · cases e2 : decide (s.wh = 1)
      · exact h
      · exact { h with u := ⟨u1, u2, u3, u4, u5, ha, hb, u8, u9⟩ }
    · exact { h with u := ⟨u1, u2, u3, u4, u5, hw.ws, hw.wn, u8, u9⟩ }
theorem setN_wf {s : SetD} {a b : Int} {m : Node} (hw : SetWf s) (ha : U32 a) (hb : U32 b) (ho : SetOk s b m) (h : NodeWf m) (q : Nat) : NodeWf (setN s a b m q) := by
  induction q with
  | zero => exact h
  | succ q ih => exact told_wf (deedQ_wf hw ha hb ho ih q) ha hb _
theorem cond_zero {b : Bool} {x y : Int} (h : cond b x y = 0) (hx : x ≠ 0) : b = false ∧ y = 0 := by
  cases b
  · exact ⟨rfl, h⟩
  · exact absurd h hx
theorem cond_self {x y : Int} (h : cond (!decide (x = 0)) x y = 0) : x = 0 ∧ y = 0 := by
  by_cases e : x = 0
  · rw [decide_eq_true e] at h; exact ⟨e, h⟩
  · rw [decide_eq_false e] at h; exact absurd h e
theorem setE_parts {ns : List Node} {n : Int} {c : CredD} {s : SetD} {a b : Int} (h : setE ns n c s a b = 0) : thereS ns n = true ∧ formS ns n c s a b (ownsS ns n c) = 0 ∧ sizeSt ns n c s a b (ownsS ns n c) = 0 := by
  unfold setE at h
  obtain ⟨h1, h⟩ := cond_zero h (by decide)
  obtain ⟨h2, h⟩ := cond_self h
  obtain ⟨_, h⟩ := cond_self h
  obtain ⟨h3, _⟩ := cond_self h
  exact ⟨by simpa using h1, h2, h3⟩
theorem setOk_of {ns : List Node} {gen n : Int} {c : CredD} {s : SetD} {a b : Int} (hg : Good ns gen) (h : setE ns n c s a b = 0) : SetOk s b (nd ns n.toNat) := by
  obtain ⟨h1, h2, h3⟩ := setE_parts h
  have ht := thereS_t h1
  unfold formS at h2
  obtain ⟨h2, _⟩ := cond_zero h2 (by decide)
  obtain ⟨h2, f6⟩ := or_f h2
  obtain ⟨h2, f5⟩ := or_f h2
  obtain ⟨h2, f4⟩ := or_f h2
  obtain ⟨h2, f3⟩ := or_f h2
  obtain ⟨f1, f2⟩ := or_f h2
  refine ⟨fun e => ?_, by simpa using f2, fun e => ?_, fun e => ?_, fun e => ?_⟩
  · rw [e] at f1; simpa using f1
  · rw [e] at f4; simpa using f4
  · rw [e] at f6; simpa using f6
  · unfold sizeSt at h3
    rw [e] at h3
    simp only [Bool.not_true, cond_false] at h3
    obtain ⟨k2, h3⟩ := cond_zero h3 (by decide)
    obtain ⟨k5, h3⟩ := cond_zero h3 (by decide)
    obtain ⟨k6, _⟩ := cond_zero h3 (by decide)
    have k2 := of_decide_eq_false k2
    have k5 := of_decide_eq_false k5
    have k6 := of_decide_eq_false k6
    refine ⟨?_, by omega⟩
    have ho := only_of hg (k := n.toNat) (by omega)
    unfold onlyS at ho
    rw [decide_eq_false ht.2.2, decide_eq_false k5, decide_eq_false k2] at ho
    by_cases e1 : (nd ns n.toNat).kind = 1
    · exact e1
    · rw [decide_eq_false e1] at ho; simp at ho
theorem mild_self {ns : List Node} {gen : Int} {k : Nat} (hg : Good ns gen) (hk : k < ns.length) (hk0 : (nd ns k).kind ≠ 0) : Mild (nd ns k) (nd ns k) := by
  obtain ⟨m, hm, hmk⟩ := liv_idx hk hk0
  have hb := hg.b1 m hm
  unfold bad1 at hb
  rw [lvn_at hmk] at hb
  obtain ⟨hb, b7⟩ := or_f hb
  obtain ⟨hb, b6⟩ := or_f hb
  obtain ⟨hb, b5⟩ := or_f hb
  obtain ⟨hb, b4⟩ := or_f hb
  obtain ⟨hb, b3⟩ := or_f hb
  have b3 := of_decide_eq_false b3
  refine ⟨rfl, rfl, rfl, rfl, rfl, rfl, rfl, rfl, by omega, by simpa using b4, by simpa using b5, by simpa using b6, fun e => ?_, fun _ => rfl⟩
  have ho := only_of hg hk
  unfold onlyS at ho
  rw [decide_eq_false hk0, decide_eq_true e] at ho
  exact of_decide_eq_true (and_t ho).2
theorem sameNS_refl (n : Node) : sameNS n n = true := by unfold sameNS; simp
theorem gkeep_of {ns : List Node} {gen n : Int} {c : CredD} {s : SetD} {a b : Int} (hW : NodesWf ns) (hw : SetWf s) (ha : U32 a) (hb : U32 b) (h : checkS ns gen = true) (he : setE ns n c s a b = 0) : GKeep ns (setNs ns n c s a b) gen (setG ns n c s a b gen) n (setE ns n c s a b) := by
  have hg := good_of h
  obtain ⟨h1, _, _⟩ := setE_parts he
  obtain ⟨t1, t2, t3⟩ := thereS_t h1
  have ho := setOk_of hg he
  have hk : n.toNat < ns.length := by omega
  have hm := mild_self hg hk t3
  have hM := setN_mild (a := a) hw.size ho hm 6
  obtain ⟨e1, e2⟩ := setE_ok (gen := gen) he
  rw [e1, e2]
  refine ⟨nodes_wf_set hW (setN_wf hw ha hb ho (hW.node _) 6), check_mild h hk t3 hM, by simp, h1, ?_, fun k hk' hkn => ?_⟩
  · have hA : Alike ns (ns.set n.toNat (setN s a b (nd ns n.toNat) 6)) := ⟨by simp, fun i => ?_, fun i => ?_⟩
    · rw [hA.there]; exact h1
    · rw [nd_set hk]
      split
      · rename_i e; rw [← e]; exact hM.kind
      · rfl
    · rw [nd_set hk]
      split
      · rename_i e; rw [← e]; exact hM.list
      · rfl
  · rw [set_other hk (by omega)]
    exact sameNS_refl _
end Go.Proofs.Ytfhhggcdmgjbcaa.Sx
