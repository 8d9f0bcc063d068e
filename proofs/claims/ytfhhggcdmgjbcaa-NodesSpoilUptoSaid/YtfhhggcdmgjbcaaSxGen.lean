/-
  A part of the walk of the seat: laws of a small proof system, and contracts of functions, each proved. Conditions: as each theorem says.
-/
import Derived.Test.YtfhhggcdmgjbcaaSxData
namespace Go.Proofs.Ytfhhggcdmgjbcaa.Sx
open Go Go.RowKit
theorem not_t {a : Bool} (h : (!a) = true) : a = false := by cases a <;> first | rfl | cases h
theorem not_f {a : Bool} (h : (!a) = false) : a = true := by cases a <;> first | rfl | cases h
theorem and_t {a b : Bool} (h : (a && b) = true) : a = true ∧ b = true := by cases a <;> cases b <;> first | exact ⟨rfl, rfl⟩ | cases h
theorem or_f {a b : Bool} (h : (a || b) = false) : a = false ∧ b = false := by cases a <;> cases b <;> first | exact ⟨rfl, rfl⟩ | cases h
section
variable {E : Env} {s : Nat} {g h : Bool}
theorem and_of_t (hg : g = true) (hs : E.get s = some (.bool h)) : E.get s = some (.bool (g && h)) := by rw [hg, Bool.true_and]; exact hs
theorem and_of_f (hg : g = false) (hs : E.get s = some (.bool false)) : E.get s = some (.bool (g && h)) := by rw [hg, Bool.false_and]; exact hs
theorem or_of_t (hg : g = true) (hs : E.get s = some (.bool true)) : E.get s = some (.bool (g || h)) := by rw [hg, Bool.true_or]; exact hs
theorem or_of_f (hg : g = false) (hs : E.get s = some (.bool h)) : E.get s = some (.bool (g || h)) := by rw [hg, Bool.false_or]; exact hs
end
theorem in_u32 {m : Int} (h1 : 0 ≤ m) (h2 : m ≤ 4294967295) : inKind .u32 m := IntWalk.u32_in _ ⟨h1, h2⟩
theorem in_u64 {m : Int} (h1 : 0 ≤ m) (h2 : m ≤ 18446744073709551615) : inKind .u64 m := IntWalk.u64_in _ ⟨h1, h2⟩
theorem agg_rfl {cs vs : Array Value} {o : Nat} (h : cs.extract o (o + vs.size) = vs) : ∀ n, n < vs.size → cs[o + n]? = vs[n]? := by
  intro n hn
  have h1 : (cs.extract o (o + vs.size))[n]? = vs[n]? := by rw [h]
  rw [← h1, Array.getElem?_extract]
  have hs : (cs.extract o (o + vs.size)).size = vs.size := by rw [h]
  simp only [Array.size_extract] at hs
  rw [if_pos (by omega)]

section
variable {X : Cx} {ops : Array Oper} {i k : Nat} {E : Env} {S : List Item} {Q : Exit → Act → World → Prop}
/-- a part of a known block that is all of it -/
theorem pv_load_blk_whole {t u : TypeId} {x : Operand} {b : Nat} {cs : Array Value} {fr : Nat × Nat} (j : Nat) (hx : E.op x = some (.pointer (some ⟨b, 0, none⟩)))
    (hj : S[j]? = some (blk b (.cells cs u fr))) (ht : isAggT X.P t = true) (hs : szT X.P t = some cs.size) : PV X E S (.load t x) (.agg cs) :=
  pv_load_blk_agg j hx hj ht hs fun n _ => by rw [Nat.zero_add]
theorem Knows.over {N D E a} (h : Knows N D E a) {s : Nat} {v : Value} (hs : E.get s = some v) : Knows N D ((s, v) :: E) a :=
  ⟨h.size, h.defers, fun t u ht => by
    simp only [Env.get] at ht
    cases hb : Nat.beq t s with
    | true => rw [hb] at ht; simp only [cond_true, Option.some.injEq] at ht; rw [Nat.eq_of_beq_eq_true hb, ← ht]; exact h.get s v hs
    | false => rw [hb] at ht; exact h.get t u (by simpa using ht)⟩
theorem Rg.know (s : Nat) {b c : Bool} (hs : E.get s = some (.bool b)) (hb : b = c) (h : Rg X ops i k ((s, .bool c) :: E) S Q) : Rg X ops i k E S Q :=
  fun a w ha hw => h a w (ha.over (hb ▸ hs)) hw
/-- '&&', '||': both answers of the guard lead to one state -/
theorem Rg.split (m : Nat) (E' : Env) (S' : List Item) {s : Nat} {g : Bool} (hs : E.get s = some (.bool g)) (hm : (Nat.ble i m && Nat.ble m k) = true)
    (ht : g = true → Rg X ops i m ((s, .bool true) :: E) S (Mid X E' S' Q)) (hf : g = false → Rg X ops i m ((s, .bool false) :: E) S (Mid X E' S' Q)) (h2 : Rg X ops m k E' S' Q) : Rg X ops i k E S Q := by
  refine Rg.cut m E' S' hm ?_ h2
  cases hg : g with
  | true => exact fun a w ha hw => ht hg a w (ha.over (by rw [← hg]; exact hs)) hw
  | false => exact fun a w ha hw => hf hg a w (ha.over (by rw [← hg]; exact hs)) hw

def skipsOk (ops : Array Oper) (N : Nat) : Nat → Nat → Env → Bool
  | 0, _, _ => true
  | n + 1, i, E => match opAt ops i with
    | some (some d, _, g) => (says ops E g == some false) && Nat.blt d N && skipsOk ops N n (i + 1) ((d, undef) :: E)
    | some (none, _, g) => (says ops E g == some false) && skipsOk ops N n (i + 1) E
    | none => false
/-- what is known but for what these operations write -/
def freeOf (ops : Array Oper) (E : Env) : Nat → Nat → Bool
  | 0, _ => true
  | n + 1, i => (match opAt ops i with
    | some (some d, _, _) => (E.get d).isNone
    | _ => true) && freeOf ops E n (i + 1)
theorem skips_run {Q : Exit → Act → World → Prop} {E0 : Env} : ∀ (n i : Nat) (E : Env), skipsOk ops X.N n i E = true → freeOf ops E0 n i = true → Sub E0 E → i + n ≤ k →
    Rg X ops (i + n) k E0 S Q → Rg X ops i k E S Q := by
  intro n
  induction n with
  | zero => intro i E _ _ hsub _ h a w ha hw; exact h a w (ha.sub hsub) hw
  | succ n ih =>
    intro i E hok hfree hsub hle h
    intro a w ha hw
    have hik : Nat.blt i k = true := by simp only [Nat.blt_eq]; omega
    rw [range_step hik]
    unfold skipsOk at hok
    unfold freeOf at hfree
    have hnext : Rg X ops (i + 1 + n) k E0 S Q := by rw [show i + 1 + n = i + (n + 1) from by omega]; exact h
    cases hoi : ops[i]? with
    | none => simp only [opAt, hoi, Option.map_none] at hok; cases hok
    | some o =>
      simp only [wpOpsIn, hoi]
      simp only [Bool.and_eq_true] at hfree
      have hop : opAt ops i = some (o.dst, o.op, o.guard) := by simp [opAt, hoi, core]
      rw [hop] at hok hfree
      cases hd : o.dst with
      | some d =>
        rw [hd] at hok hfree
        simp only [Bool.and_eq_true, beq_iff_eq, Nat.blt_eq] at hok
        obtain ⟨⟨hs, hdN⟩, hrest⟩ := hok
        have hw' := says_wanted (X := X) ha hs
        rw [if_neg (by rw [hw']; simp)]
        refine ⟨fun _ _ => trivial, ?_⟩
        refine ih (i + 1) ((d, undef) :: E) hrest hfree.2 ?_ (by omega) hnext _ _ (ha.put hdN undef) hw
        intro s v hv
        have hne : Nat.beq s d = false := by
          rw [Bool.eq_false_iff]; intro e
          have := Nat.eq_of_beq_eq_true e
          subst this
          have hz := hfree.1
          simp only [hv, Option.isNone_some] at hz
          cases hz
        simp only [Env.get, hne, cond_false]
        exact hsub s v hv
      | none =>
        rw [hd] at hok hfree
        simp only [Bool.and_eq_true, beq_iff_eq] at hok
        have hw' := says_wanted (X := X) ha hok.1
        rw [if_neg (by rw [hw']; simp)]
        exact ⟨fun _ _ => trivial, ih (i + 1) E hok.2 hfree.2 hsub (by omega) hnext _ _ ha hw⟩
/-- these operations are passed over: their guards say no -/
theorem Rg.skips (m : Nat) (hc : (Nat.ble i m && Nat.ble m k && skipsOk ops X.N (m - i) i E && freeOf ops E (m - i) i) = true) (h : Rg X ops m k E S Q) : Rg X ops i k E S Q := by
  simp only [Bool.and_eq_true, Nat.ble_eq] at hc
  obtain ⟨⟨⟨h1, h2⟩, h3⟩, h4⟩ := hc
  refine skips_run (m - i) i E h3 h4 (fun _ _ h => h) (by omega) ?_
  rw [show i + (m - i) = m from by omega]; exact h
end
end Go.Proofs.Ytfhhggcdmgjbcaa.Sx
namespace Go.Proofs.Ytfhhggcdmgjbcaa.Sx
open Go Go.RowKit
section
variable {X : Cx} {E : Env} {S : List Item}
theorem pv_indexAddr' {t e : TypeId} {x y : Operand} {p : Option Addr} {b o len cap sz : Nat} {q : IntKind} {n : Int} (hx : E.op x = some (.slice p len cap)) (hp : p = some ⟨b, o, none⟩) (hy : E.op y = some (.int q n))
    (he : elemT X.P t = some (e, sz)) (h0 : 0 ≤ n) (h1 : n < len) : PV X E S (.indexAddr t x y) (.pointer (some ⟨b, o + n.toNat * sz, none⟩)) :=
  pv_indexAddr (by rw [hx, hp]) hy he h0 h1
end
end Go.Proofs.Ytfhhggcdmgjbcaa.Sx
