/-
  A part of the walk of the seat: laws of a small proof system, and contracts of functions, each proved. Conditions: as each theorem says.
-/
import Derived.Test.YtfhhggcdmgjbcaaSxGen
import Derived.Deep.Quiet
namespace Go.Proofs.Ytfhhggcdmgjbcaa.Sx
open Go Go.RowKit

theorem rows_in {r : Option Nat} {n : Nat} {P : Program} {row : String} {args : Array Value} {w : World} {R : Value → World → Prop} (h : Rows P row args w R) : RowsIn (fence r) n P row args w R := by
  intro c cs _
  obtain ⟨v, w', hr, hs⟩ := h c cs
  exact ⟨v, w', hr, (stepsIn_wide (P := P)).2 hs⟩
theorem calls_in {r : Option Nat} {n : Nat} {P : Program} {f : FuncId} {args : Array Value} {w : World} {R : Ending → World → Prop} (h : Calls P f args w R) : CallsIn (fence r) n P f args w R :=
  (callsIn_wide (n := n)).2 h

def calmAll (ops : Array Oper) : Bool := ops.all fun o => calm o.op

theorem wpOpsIn_of_wpOps {r : Option Nat} {P : Program} {ops : Array Oper} {Q Q' : Exit → Act → World → Prop} (hc : calmAll ops = true) (hO : ¬ LetsOut Q') (hQ : ∀ e a w, Q' e a w → Q e a w) : ∀ (l : List Nat) (a : Act) (w : World),
    wpOps P ops Q' l a w → wpOpsIn (fence r) 0 P ops Q l a w := by
  intro l
  induction l with
  | nil => intro a w h; exact hQ _ _ _ h
  | cons i l ih =>
    intro a w h
    simp only [wpOps, wpOpsIn] at h ⊢
    cases ho : ops[i]? with
    | none => simp only [ho] at h; exact ih a w h
    | some o =>
      simp only [ho] at h ⊢
      have hco : calm o.op = true := by
        unfold calmAll at hc
        rw [Array.all_eq_true] at hc
        obtain ⟨hi, he⟩ := Array.getElem?_eq_some_iff.1 ho
        have := hc i hi
        rw [he] at this; exact this
      by_cases hw : Region.wanted o (yielded ops a.tmps) = true
      · rw [if_pos hw] at h ⊢
        refine ⟨fun _ _ => trivial, ?_⟩
        rw [semAt_calm hco]
        rcases h with h | ⟨_, h⟩
        · unfold Oper.wp Oper.upon at h
          unfold Oper.uponIn
          split at h <;> rename_i heq
          · rw [heq]; exact ih _ _ h
          · rw [heq]; exact ih _ _ h
          · rw [heq]; exact ih _ _ h
          · rw [heq]
            refine ⟨fun h => by simp [fence, Fence.wide] at h, calls_in (h.mono ?_)⟩
            intro e w' he
            cases e with
            | returned v => exact ih _ _ he
            | panicked c => exact hQ _ _ _ he
            | outgrown => exact (hO he).elim
          · rw [heq]
            exact ⟨fun h => by simp [fence, Fence.wide] at h, rows_in (h.mono fun v w' he => ih _ _ he)⟩
          · rw [heq]; exact hQ _ _ _ h
          · exact h.elim
        · exact (hO h).elim
      · rw [if_neg hw] at h ⊢
        exact ⟨fun _ _ => trivial, ih _ _ h⟩

/-- a piece of a region of quiet operations -/
def Qg (X : Cx) (ops : Array Oper) (i k : Nat) (E : Env) (S : List Item) (Q : Act → Prop) : Prop :=
  ∀ a, Knows X.N X.D E a → wpQuiet X.P ops (Heap X.w0 S) Q ((ops.toList.drop i).take (k - i)) a

section
variable {X : Cx} {ops : Array Oper} {i k : Nat} {E : Env} {S : List Item} {Q : Act → Prop}

theorem drop_step {o : Oper} (h : ops[i]? = some o) (hik : i < k) : (ops.toList.drop i).take (k - i) = o :: (ops.toList.drop (i + 1)).take (k - (i + 1)) := by
  have hl : ops.toList[i]? = some o := by simpa using h
  obtain ⟨hi, he⟩ := List.getElem?_eq_some_iff.1 hl
  rw [List.drop_eq_getElem_cons hi, he]
  obtain ⟨m, hm⟩ : ∃ m, k - i = m + 1 := ⟨k - i - 1, by omega⟩
  rw [hm, List.take_succ_cons, show k - (i + 1) = m from by omega]

theorem Qg.fin (hk : Nat.ble k i = true) (h : ∀ a, Knows X.N X.D E a → Q a) : Qg X ops i k E S Q := by
  intro a ha
  have h' : k ≤ i := by simpa using hk
  rw [show k - i = 0 from by omega]
  exact h a ha

theorem Qg.pure {d : Nat} {op : Op} {g : Option (Nat × Bool)} {v : Value} (ho : opAt ops i = some (some d, op, g))
    (hc : (calm op && Nat.blt d X.N && Nat.blt i k && (says ops E g == some true)) = true)
    (hv : PV X E S op v) (h : Qg X ops (i + 1) k ((d, v) :: E) S Q) : Qg X ops i k E S Q := by
  intro a ha
  simp only [Bool.and_eq_true, beq_iff_eq, Nat.blt_eq] at hc
  obtain ⟨⟨⟨hc1, hd⟩, hik⟩, hs⟩ := hc
  simp only [opAt] at ho
  cases hoi : ops[i]? with
  | none => rw [hoi] at ho; simp at ho
  | some o =>
    rw [hoi] at ho
    simp only [Option.map_some, core, Option.some.injEq, Prod.mk.injEq] at ho
    obtain ⟨h1, h2, h3⟩ := ho
    rw [drop_step hoi hik]
    simp only [wpQuiet]
    rw [if_pos (says_wanted ha (by rw [h3]; exact hs))]
    refine ⟨v, fun w hw => ?_, ?_⟩
    · unfold Oper.quietAt
      rw [hv a w o ha hw h2]
      exact ⟨rfl, rfl⟩
    · rw [h1]; exact h _ (ha.put hd v)

theorem qg_call {d : Option Nat} {f : FuncId} {xs : Array Operand} {ts : Array TypeId} {g : Option (Nat × Bool)} {vs : List Value} {v : Value} (ho : opAt ops i = some (d, .call { callee := .value (.func f), args := xs, argTypes := ts }, g))
    (hc : (true && (d.all fun d => Nat.blt d X.N) && Nat.blt i k && (says ops E g == some true)) = true) (hf : entered X.P f = true) (hx : Env.opsOf E xs.toList = some vs)
    (hcall : ∀ w, Heap X.w0 S w → Calls X.P f vs.toArray w (Ret w v)) (h : Qg X ops (i + 1) k (putE d v E) S Q) : Qg X ops i k E S Q := by
  intro a ha
  simp only [Bool.and_eq_true, beq_iff_eq, Nat.blt_eq] at hc
  obtain ⟨⟨⟨_, hd⟩, hik⟩, hs⟩ := hc
  simp only [opAt] at ho
  cases hoi : ops[i]? with
  | none => rw [hoi] at ho; simp at ho
  | some o =>
    rw [hoi] at ho
    simp only [Option.map_some, core, Option.some.injEq, Prod.mk.injEq] at ho
    obtain ⟨h1, h2, h3⟩ := ho
    rw [drop_step hoi hik]
    simp only [wpQuiet]
    rw [if_pos (says_wanted ha (by rw [h3]; exact hs))]
    refine ⟨v, fun w hw => ?_, ?_⟩
    · have he : (xs.map a.eval) = vs.toArray := by
        have := ha.evals hx
        rw [← Array.toList_inj]; simpa using this
      have hrun : (execOp a.eval o).run X.P w = .ok (.enter f vs.toArray) w := by
        unfold execOp; rw [h2]
        simp [resolve, Act.eval, Deferred.ofValue, invoke, run_callFunc hf]
        exact he
      unfold Oper.quietAt
      rw [hrun]
      exact ⟨rfl, (hcall w hw).mono fun e w' ⟨he, hb⟩ => ⟨he, hw.below hb⟩⟩
    · rw [h1]
      cases d with
      | none => exact h _ ha
      | some d => exact h _ (ha.put (by simpa using hd) v)

theorem Qg.know (s : Nat) {b c : Bool} (hs : E.get s = some (.bool b)) (hb : b = c) (h : Qg X ops i k ((s, .bool c) :: E) S Q) : Qg X ops i k E S Q :=
  fun a ha => h a (ha.over (hb ▸ hs))

theorem wpQuiet_append {P : Program} {C : World → Prop} (l2 : List Oper) : ∀ (l1 : List Oper) (a : Act), wpQuiet P ops C (wpQuiet P ops C Q l2) l1 a → wpQuiet P ops C Q (l1 ++ l2) a := by
  intro l1
  induction l1 with
  | nil => intro a h; exact h
  | cons o l1 ih =>
    intro a h
    simp only [List.cons_append, wpQuiet] at h ⊢
    split
    · rename_i hw
      rw [if_pos hw] at h
      exact Oper.quiet_mono (fun a => ih a) h
    · rename_i hw
      rw [if_neg hw] at h
      exact ih _ h
theorem wpQuiet_mono {P : Program} {C : World → Prop} {Q Q' : Act → Prop} (hq : ∀ a, Q a → Q' a) : ∀ (l : List Oper) (a : Act), wpQuiet P ops C Q l a → wpQuiet P ops C Q' l a := by
  intro l
  induction l with
  | nil => intro a h; exact hq a h
  | cons o l ih =>
    intro a h
    simp only [wpQuiet] at h ⊢
    split
    · rename_i hw
      rw [if_pos hw] at h
      exact Oper.quiet_mono (fun a => ih a) h
    · rename_i hw
      rw [if_neg hw] at h
      exact ih _ h
theorem Qg.split (m : Nat) (E' : Env) (_S' : List Item) {s : Nat} {g : Bool} (hs : E.get s = some (.bool g)) (hm : (Nat.ble i m && Nat.ble m k) = true)
    (ht : g = true → Qg X ops i m ((s, .bool true) :: E) S (Knows X.N X.D E')) (hf : g = false → Qg X ops i m ((s, .bool false) :: E) S (Knows X.N X.D E')) (h2 : Qg X ops m k E' S Q) : Qg X ops i k E S Q := by
  intro a ha
  simp only [Bool.and_eq_true, Nat.ble_eq] at hm
  have e : (ops.toList.drop i).take (k - i) = (ops.toList.drop i).take (m - i) ++ (ops.toList.drop m).take (k - m) := by
    rw [show k - i = (m - i) + (k - m) from by omega, List.take_add, List.drop_drop, show i + (m - i) = m from by omega]
  rw [e]
  have hg : wpQuiet X.P ops (Heap X.w0 S) (Knows X.N X.D E') ((ops.toList.drop i).take (m - i)) a := by
    cases hg : g with
    | true => exact ht hg a (ha.over (by rw [← hg]; exact hs))
    | false => exact hf hg a (ha.over (by rw [← hg]; exact hs))
  exact wpQuiet_append _ _ a (wpQuiet_mono (fun a ha => h2 a ha) _ a hg)
theorem Qg.mid {E' : Env} (hs : Sub E' E) (hk : Nat.ble k i = true) : Qg X ops i k E S (Knows X.N X.D E') := Qg.fin hk fun _ ha => ha.sub hs

theorem qskips_run {E0 : Env} : ∀ (n i : Nat) (E : Env), skipsOk ops X.N n i E = true → freeOf ops E0 n i = true → Sub E0 E → i + n ≤ k →
    Qg X ops (i + n) k E0 S Q → Qg X ops i k E S Q := by
  intro n
  induction n with
  | zero => intro i E _ _ hsub _ h a ha; exact h a (ha.sub hsub)
  | succ n ih =>
    intro i E hok hfree hsub hle h a ha
    unfold skipsOk at hok
    unfold freeOf at hfree
    have hnext : Qg X ops (i + 1 + n) k E0 S Q := by rw [show i + 1 + n = i + (n + 1) from by omega]; exact h
    cases hoi : ops[i]? with
    | none => simp only [opAt, hoi, Option.map_none] at hok; cases hok
    | some o =>
      rw [drop_step hoi (by omega)]
      simp only [wpQuiet]
      simp only [Bool.and_eq_true] at hfree
      have hop : opAt ops i = some (o.dst, o.op, o.guard) := by simp [opAt, hoi, core]
      rw [hop] at hok hfree
      cases hd : o.dst with
      | some d =>
        rw [hd] at hok hfree
        simp only [Bool.and_eq_true, beq_iff_eq, Nat.blt_eq] at hok
        obtain ⟨⟨hs, hdN⟩, hrest⟩ := hok
        have hw' := says_wanted (X := X) ha hs
        rw [if_neg (by rw [hw']; simp)]
        refine ih (i + 1) ((d, undef) :: E) hrest hfree.2 ?_ (by omega) hnext _ (ha.put hdN undef)
        intro s v hv
        have hne : Nat.beq s d = false := by
          rw [Bool.eq_false_iff]; intro e
          have := Nat.eq_of_beq_eq_true e
          subst this
          have hz := hfree.1
          simp only [hv, Option.isNone_some] at hz
          cases hz
        simp only [Env.get, hne, cond_false]
        exact hsub s v hv
      | none =>
        rw [hd] at hok hfree
        simp only [Bool.and_eq_true, beq_iff_eq] at hok
        have hw' := says_wanted (X := X) ha hok.1
        rw [if_neg (by rw [hw']; simp)]
        exact ih (i + 1) E hok.2 hfree.2 hsub (by omega) hnext _ ha
theorem Qg.skips (m : Nat) (hc : (Nat.ble i m && Nat.ble m k && skipsOk ops X.N (m - i) i E && freeOf ops E (m - i) i) = true) (h : Qg X ops m k E S Q) : Qg X ops i k E S Q := by
  simp only [Bool.and_eq_true, Nat.ble_eq] at hc
  obtain ⟨⟨⟨h1, h2⟩, h3⟩, h4⟩ := hc
  refine qskips_run (m - i) i E h3 h4 (fun _ _ h => h) (by omega) ?_
  rw [show i + (m - i) = m from by omega]; exact h
end

/-- a region that draws its order, its operations quiet: one walk serves every order -/
theorem ev_quiet {X : Cx} {c : Code} {E E' : Env} {S : List Item} {Q : Exit → Act → World → Prop} {n : Nat} (hs : shapeOf c = .region true n)
    (hB : (X.P.follows .mixedOrders && Region.lexB .any (cops c) && calmAll (cops c)) = true) (h : Qg X (cops c) 0 n E S (Knows X.N X.D E')) (h2 : At X .normal E' S Q) : Ev X c E S Q := by
  cases c with
  | region id ops d =>
    simp only [shapeOf, Shape.region.injEq] at hs
    obtain ⟨rfl, rfl⟩ := hs
    simp only [cops, Bool.and_eq_true] at hB h
    obtain ⟨⟨hm, hB⟩, hcalm⟩ := hB
    simp only [Region.lexB, Bool.and_eq_true] at hB
    intro a w ha hw
    refine wpIn_region_draw fun t => ?_
    let Q' : Exit → Act → World → Prop := fun e a w => e = .normal ∧ Knows X.N X.D E' a ∧ Heap X.w0 S w
    refine wpOpsIn_of_wpOps (Q' := Q') hcalm (by rintro ⟨a, w, h, _⟩; cases h) (by rintro e a w ⟨rfl, h3, h4⟩; exact h2 a w h3 h4) _ _ _ ?_
    simp only [Region.schedule, hm, Bool.true_or, if_true]
    refine wpAny_sound ops.size t _ a _ ?_
    have hC : Heap X.w0 S { w with drawn := w.drawn + 1 } := ⟨hw.os, hw.tape, hw.output, fun it hit => it.stable w _ (fun _ _ => rfl) (hw.ok it hit), hw.low, hw.apart⟩
    refine wpAny_of_quiet (C := Heap X.w0 S) (Q := Knows X.N X.D E') (fun a w hw ha => ⟨rfl, ha, hw⟩) _ _ _ _ hC ?_
    have hq := h a ha
    simp only [Nat.sub_zero, List.drop_zero] at hq
    rw [List.take_of_length_le (by simp)] at hq
    have := wpAnyQ_lex (C := Heap X.w0 S) (md := .any) hB.1 ops.toList 0 (Array.replicate ops.size false) a (by simp) (by simpa using hB.2) hq
    simpa using this
  | cond x _ _ => cases x <;> cases hs
  | _ => cases hs
end Go.Proofs.Ytfhhggcdmgjbcaa.Sx
namespace Go.Proofs.Ytfhhggcdmgjbcaa.Sx
open Go Go.RowKit
section
variable {X : Cx} {ops : Array Oper} {i k : Nat} {E : Env} {S : List Item}
/-- a test that is open: each answer is walked on its own -/
theorem Rg.fork {Q : Exit → Act → World → Prop} (s : Nat) {g : Bool} (hs : E.get s = some (.bool g)) (ht : g = true → Rg X ops i k ((s, .bool true) :: E) S Q) (hf : g = false → Rg X ops i k ((s, .bool false) :: E) S Q) : Rg X ops i k E S Q := by
  cases hg : g with
  | true => exact fun a w ha hw => ht hg a w (ha.over (by rw [← hg]; exact hs)) hw
  | false => exact fun a w ha hw => hf hg a w (ha.over (by rw [← hg]; exact hs)) hw
theorem Qg.fork {Q : Act → Prop} (s : Nat) {g : Bool} (hs : E.get s = some (.bool g)) (ht : g = true → Qg X ops i k ((s, .bool true) :: E) S Q) (hf : g = false → Qg X ops i k ((s, .bool false) :: E) S Q) : Qg X ops i k E S Q := by
  cases hg : g with
  | true => exact fun a ha => ht hg a (ha.over (by rw [← hg]; exact hs))
  | false => exact fun a ha => hf hg a (ha.over (by rw [← hg]; exact hs))
end
end Go.Proofs.Ytfhhggcdmgjbcaa.Sx
