/-
  A part of the walk of the seat: laws of a small proof system, and contracts of functions, each proved. Conditions: as each theorem says.
-/
import Derived.WalkKit
import Derived.OwnWalkIn
import Derived.CallsIn
namespace Go.Proofs.Ytfhhggcdmgjbcaa.Sx
open Go Go.RowKit

/-! ### What is known of a frame -/
abbrev Env := List (Nat × Value)

def Env.get : Env → Nat → Option Value
  | [], _ => none
  | (s, v) :: E, t => cond (Nat.beq t s) (some v) (Env.get E t)

structure Knows (N : Nat) (D : List Deferred) (E : Env) (a : Act) : Prop where
  size : a.tmps.size = N
  defers : a.defers = D
  get : ∀ s v, E.get s = some v → a.tmps[s]? = some v

def Env.op (E : Env) : Operand → Option Value
  | .tmp t => E.get t
  | .const v => some v
  | .global g => some (.pointer (some ⟨g, 0, none⟩))
  | .func f => some (.func (.func f) #[] #[])

theorem Knows.eval {N D E a} (h : Knows N D E a) {x : Operand} {v : Value} (hx : E.op x = some v) : a.eval x = v := by
  cases x with
  | tmp t =>
    have := h.get t v hx
    simp [Act.eval, this]
  | const c => simpa [Env.op, Act.eval] using hx
  | global g => simpa [Env.op, Act.eval] using hx
  | func f => simpa [Env.op, Act.eval] using hx

theorem Knows.put {N D E a} (h : Knows N D E a) {d : Nat} (hd : d < N) (v : Value) : Knows N D ((d, v) :: E) (a.put (some d) v) := by
  refine ⟨by simp [Act.put, h.size], by simp [Act.put, h.defers], fun s u hs => ?_⟩
  simp only [Env.get] at hs
  by_cases e : s = d
  · subst e
    have : Nat.beq s s = true := by simp
    rw [this] at hs
    simp only [cond_true, Option.some.injEq] at hs
    subst hs
    simp only [Act.put]
    rw [Array.getElem?_setIfInBounds_self_of_lt (by rw [h.size]; exact hd)]
  · have : Nat.beq s d = false := by
      rw [Bool.eq_false_iff]; intro hb; exact e (Nat.eq_of_beq_eq_true hb)
    rw [this] at hs
    simp only [cond_false] at hs
    simp only [Act.put]
    rw [Array.getElem?_setIfInBounds_ne (by omega)]
    exact h.get s u hs

/-- a slot whose value is not known any more -/
def Env.drop (d : Nat) : Env → Env
  | [] => []
  | (s, v) :: E => cond (Nat.beq s d) (Env.drop d E) ((s, v) :: Env.drop d E)

/-- what is known is known -/
def Sub (E' E : Env) : Prop := ∀ s v, E'.get s = some v → E.get s = some v
theorem Sub.nil (E : Env) : Sub [] E := fun s v h => by simp [Env.get] at h
theorem Sub.cons {E' E : Env} {s : Nat} {v : Value} (h : E.get s = some v) (h' : Sub E' E) : Sub ((s, v) :: E') E := by
  intro t u ht
  simp only [Env.get] at ht
  cases hb : Nat.beq t s with
  | true =>
    rw [hb] at ht
    simp only [cond_true, Option.some.injEq] at ht
    rw [Nat.eq_of_beq_eq_true hb, ← ht]; exact h
  | false => rw [hb] at ht; exact h' t u (by simpa using ht)
theorem Knows.sub {N D E E' a} (h : Knows N D E a) (hs : Sub E' E) : Knows N D E' a := ⟨h.size, h.defers, fun s v hv => h.get s v (hs s v hv)⟩

/-! ### What is known of the memory -/
structure Item where
  fp : Nat → Prop
  ok : World → Prop
  stable : ∀ w w' : World, (∀ k, fp k → w'.heap[k]? = w.heap[k]?) → ok w → ok w'

def blk (b : Nat) (o : Obj) : Item := ⟨(· = b), fun w => w.heap[b]? = some o, fun _ _ h hw => (h b rfl).trans hw⟩

structure Heap (w0 : World) (S : List Item) (w : World) : Prop where
  os : w.os = w0.os
  tape : w.tape = w0.tape
  output : w.output = w0.output
  ok : ∀ it ∈ S, it.ok w
  low : ∀ it ∈ S, ∀ k, it.fp k → k < w.heap.size
  apart : S.Pairwise fun x y => ∀ k, x.fp k → ¬ y.fp k

section
variable {w0 w : World} {S : List Item}
theorem Heap.at_ (h : Heap w0 S w) (i : Nat) {it : Item} (hi : S[i]? = some it) : it.ok w := h.ok it (List.mem_of_getElem? hi)
theorem Heap.lt (h : Heap w0 S w) (i : Nat) {it : Item} (hi : S[i]? = some it) {k : Nat} (hk : it.fp k) : k < w.heap.size := h.low it (List.mem_of_getElem? hi) k hk
theorem Heap.blk_at (h : Heap w0 S w) (i : Nat) {b : Nat} {o : Obj} (hi : S[i]? = some (blk b o)) : w.heap[b]? = some o := h.at_ i hi
theorem Heap.blk_lt (h : Heap w0 S w) (i : Nat) {b : Nat} {o : Obj} (hi : S[i]? = some (blk b o)) : b < w.heap.size := h.lt i hi (k := b) rfl

/-- a new block -/
theorem Heap.alloc (h : Heap w0 S w) (o : Obj) : Heap w0 (blk w.heap.size o :: S) { w with heap := w.heap.push o } := by
  have hold : ∀ k, k < w.heap.size → (w.heap.push o)[k]? = w.heap[k]? := fun k hk => by
    rw [Array.getElem?_push, if_neg (by omega)]
  refine ⟨h.os, h.tape, h.output, fun it hit => ?_, fun it hit k hk => ?_, ?_⟩
  · rcases List.mem_cons.1 hit with rfl | hit
    · show (w.heap.push o)[w.heap.size]? = some o
      simp
    · exact it.stable w _ (fun k hk => hold k (h.low it hit k hk)) (h.ok it hit)
  · rcases List.mem_cons.1 hit with rfl | hit
    · have : k = w.heap.size := hk
      simp [this]
    · have := h.low it hit k hk
      simp; omega
  · refine List.Pairwise.cons (fun it hit k hk hk' => ?_) h.apart
    have e : k = w.heap.size := hk
    have := h.low it hit k hk'
    omega

/-- another world in which all these blocks lie as they lay -/
theorem Heap.keep (h : Heap w0 S w) {w' : World} (hos : w'.os = w.os) (ht : w'.tape = w.tape) (ho : w'.output = w.output) (hs : w.heap.size ≤ w'.heap.size)
    (hb : ∀ it ∈ S, ∀ k, it.fp k → w'.heap[k]? = w.heap[k]?) : Heap w0 S w' :=
  ⟨hos.trans h.os, ht.trans h.tape, ho.trans h.output, fun it hit => it.stable w w' (hb it hit) (h.ok it hit),
   fun it hit k hk => Nat.lt_of_lt_of_le (h.low it hit k hk) hs, h.apart⟩
theorem Heap.below (h : Heap w0 S w) {w' : World} (hb : Below w.heap.size w w') : Heap w0 S w' :=
  h.keep hb.os hb.tape hb.output hb.size fun it hit k hk => hb.block k (h.low it hit k hk)
theorem Heap.drew (h : Heap w0 S w) : Heap w0 S w.drew := ⟨h.os, h.tape, h.output, fun it hit => it.stable w _ (fun _ _ => rfl) (h.ok it hit), h.low, h.apart⟩

/-- fewer are known -/
theorem Heap.sub (h : Heap w0 S w) {S' : List Item} (hs : S'.Sublist S) : Heap w0 S' w :=
  ⟨h.os, h.tape, h.output, fun it hit => h.ok it (hs.subset hit), fun it hit => h.low it (hs.subset hit), h.apart.sublist hs⟩

/-- the block at place i is turned -/
theorem Heap.set (h : Heap w0 S w) (i : Nat) {b : Nat} {o : Obj} (hi : S[i]? = some (blk b o)) (o' : Obj) {w' : World} (hos : w'.os = w.os) (ht : w'.tape = w.tape) (ho : w'.output = w.output)
    (hs : w'.heap = w.heap.setIfInBounds b o') : Heap w0 (S.set i (blk b o')) w' := by
  have hlt : i < S.length := (List.getElem?_eq_some_iff.1 hi).1
  have hSi : S[i] = blk b o := (List.getElem?_eq_some_iff.1 hi).2
  have hb : b < w.heap.size := h.blk_lt i hi
  have hoth : ∀ k, k ≠ b → w'.heap[k]? = w.heap[k]? := fun k hk => by rw [hs, Array.getElem?_setIfInBounds_ne (by omega)]
  have hap : ∀ j, (hj : j < S.length) → j ≠ i → ∀ k, (S[j]).fp k → k ≠ b := by
    intro j hj hji k hk e
    subst e
    have hp := List.pairwise_iff_getElem.1 h.apart
    rcases Nat.lt_or_gt_of_ne hji with hlt' | hgt
    · exact hp j i hj hlt hlt' k hk (by rw [hSi]; rfl)
    · exact hp i j hlt hj hgt k (by rw [hSi]; rfl) hk
  refine ⟨hos.trans h.os, ht.trans h.tape, ho.trans h.output, fun it hit => ?_, fun it hit k hk => ?_, ?_⟩
  · obtain ⟨j, hj, rfl⟩ := List.mem_iff_getElem.1 hit
    rw [List.length_set] at hj
    by_cases e : j = i
    · subst e
      rw [List.getElem_set_self]
      show w'.heap[b]? = some o'
      rw [hs, Array.getElem?_setIfInBounds_self_of_lt hb]
    · rw [List.getElem_set_ne (by omega)]
      exact (S[j]).stable w w' (fun k hk => hoth k (hap j hj e k hk)) (h.ok _ (List.getElem_mem hj))
  · obtain ⟨j, hj, rfl⟩ := List.mem_iff_getElem.1 hit
    rw [List.length_set] at hj
    rw [hs, Array.size_setIfInBounds]
    by_cases e : j = i
    · subst e
      rw [List.getElem_set_self] at hk
      have : k = b := hk
      omega
    · rw [List.getElem_set_ne (by omega)] at hk
      exact h.low _ (List.getElem_mem hj) k hk
  · rw [List.pairwise_iff_getElem]
    intro x y hx hy hxy k
    rw [List.length_set] at hx hy
    have hp := List.pairwise_iff_getElem.1 h.apart x y hx hy hxy k
    intro h1 h2
    refine hp ?_ ?_
    · by_cases e : x = i
      · subst e; rw [List.getElem_set_self] at h1; rw [hSi]; exact h1
      · rwa [List.getElem_set_ne (by omega)] at h1
    · by_cases e : y = i
      · subst e; rw [List.getElem_set_self] at h2; rw [hSi]; exact h2
      · rwa [List.getElem_set_ne (by omega)] at h2
end

/-! ### The region: operations one behind the other -/
/-- the fence that lets everything: in no round, or in a round -/
def fence (r : Option Nat) : Fence := { Fence.wide with round := r }

/-- what does not turn in a call: the round, the program, the frame's size, the deferred calls, the world when the call began -/
structure Cx where
  r : Option Nat
  P : Program
  N : Nat
  D : List Deferred
  w0 : World

/-- the operations i, .., k - 1 of a region -/
def Rg (X : Cx) (ops : Array Oper) (i k : Nat) (E : Env) (S : List Item) (Q : Exit → Act → World → Prop) : Prop :=
  ∀ a w, Knows X.N X.D E a → Heap X.w0 S w → wpOpsIn (fence X.r) 0 X.P ops Q (List.range' i (k - i)) a w

/-- code, from a frame and a memory of which this is known -/
def Ev (X : Cx) (c : Code) (E : Env) (S : List Item) (Q : Exit → Act → World → Prop) : Prop :=
  ∀ a w, Knows X.N X.D E a → Heap X.w0 S w → c.wpIn (fence X.r) 0 X.P Q a w

/-- what an operation is, but for its place and its edges -/
def core (o : Oper) : Option Tmp × Op × Option (Nat × Bool) := (o.dst, o.op, o.guard)
def opAt (ops : Array Oper) (i : Nat) : Option (Option Tmp × Op × Option (Nat × Bool)) := (ops[i]?).map core

/-- no operation that the fence's round would carry out otherwise -/
def calm : Op → Bool
  | .defer _ => false
  | _ => true

/-- the guard's answer, as far as it is known -/
def says (ops : Array Oper) (E : Env) : Option (Nat × Bool) → Option Bool
  | none => some true
  | some (j, want) =>
    match (ops[j]?).bind (·.dst) with
    | some t => match E.get t with
      | some (.bool b) => some (b == want)
      | some _ => some false
      | none => none
    | none => none

theorem semAt_calm {o : Oper} (h : calm o.op = true) (r : Option Nat) (ρ : Operand → Value) : o.semAt r ρ = execOp ρ o :=
  Oper.semAt_eq r ρ o (fun c e => by rw [e] at h; simp [calm] at h)

section
variable {X : Cx} {ops : Array Oper} {i k : Nat} {E : Env} {S : List Item} {Q : Exit → Act → World → Prop}

theorem says_wanted {o : Oper} {a : Act} {b : Bool} (ha : Knows X.N X.D E a) (h : says ops E o.guard = some b) : Region.wanted o (yielded ops a.tmps) = b := by
  unfold says at h
  unfold Region.wanted
  split at h
  · rename_i hg; simp only [Option.some.injEq] at h; simp [hg, ← h]
  · rename_i j want hg
    rw [hg]
    dsimp only
    split at h
    · rename_i t ht
      split at h
      · rename_i b' hb
        have := ha.get t _ hb
        simp only [Option.some.injEq] at h
        rw [← h]
        simp [yielded, ht, this]
      · rename_i v hne hv
        have := ha.get t _ hv
        simp only [Option.some.injEq] at h
        rw [← h]
        simp only [yielded, ht, Option.bind_some, this]
        cases v <;> first | rfl | exact (hne _ rfl).elim
      · cases h
    · cases h

theorem range_step (h : Nat.blt i k = true) : List.range' i (k - i) = i :: List.range' (i + 1) (k - (i + 1)) := by
  have h' : i < k := by simpa using h
  obtain ⟨m, hm⟩ : ∃ m, k - i = m + 1 := ⟨k - i - 1, by omega⟩
  have e : k - (i + 1) = m := by omega
  rw [hm, List.range'_succ, e]

theorem Rg.done (h : ∀ a w, Knows X.N X.D E a → Heap X.w0 S w → Q .normal a w) (hk : Nat.ble k i = true := by rfl) : Rg X ops i k E S Q := by
  intro a w ha hw
  have h' : k ≤ i := by simpa using hk
  have : k - i = 0 := by omega
  rw [this]
  exact h a w ha hw

/-- the next operation is carried out: a value -/
theorem Rg.value {d : Nat} {op : Op} {g : Option (Nat × Bool)} (ho : opAt ops i = some (some d, op, g))
    (hc : (calm op && Nat.blt d X.N && Nat.blt i k && (says ops E g == some true)) = true)
    (hv : ∀ a w o, Knows X.N X.D E a → Heap X.w0 S w → o.op = op → ∃ v w' S', (execOp a.eval o).run X.P w = .ok (.value v) w' ∧ Heap X.w0 S' w' ∧ Rg X ops (i + 1) k ((d, v) :: E) S' Q) :
    Rg X ops i k E S Q := by
  intro a w ha hw
  simp only [Bool.and_eq_true, beq_iff_eq, Nat.blt_eq] at hc
  obtain ⟨⟨⟨hc1, hd⟩, hik⟩, hs⟩ := hc
  rw [range_step (by simpa using hik)]
  simp only [opAt] at ho
  cases hoi : ops[i]? with
  | none => rw [hoi] at ho; simp at ho
  | some o =>
    rw [hoi] at ho
    simp only [Option.map_some, core, Option.some.injEq, Prod.mk.injEq] at ho
    obtain ⟨h1, h2, h3⟩ := ho
    simp only [wpOpsIn, hoi]
    rw [if_pos (says_wanted ha (by rw [h3]; exact hs))]
    obtain ⟨v, w', S', hr, hw', hl⟩ := hv a w o ha hw h2
    refine ⟨fun _ _ => trivial, ?_⟩
    rw [semAt_calm (by rw [h2]; exact hc1), hr, Oper.uponIn_value, h1]
    exact hl _ _ (ha.put hd v) hw'

/-- the next operation is carried out: no value (a store) -/
theorem Rg.quiet {op : Op} {g : Option (Nat × Bool)} (ho : opAt ops i = some (none, op, g))
    (hc : (calm op && Nat.blt i k && (says ops E g == some true)) = true)
    (hv : ∀ a w o, Knows X.N X.D E a → Heap X.w0 S w → o.op = op → ∃ w' S', (execOp a.eval o).run X.P w = .ok .skip w' ∧ Heap X.w0 S' w' ∧ Rg X ops (i + 1) k E S' Q) :
    Rg X ops i k E S Q := by
  intro a w ha hw
  simp only [Bool.and_eq_true, beq_iff_eq, Nat.blt_eq] at hc
  obtain ⟨⟨hc1, hik⟩, hs⟩ := hc
  rw [range_step (by simpa using hik)]
  simp only [opAt] at ho
  cases hoi : ops[i]? with
  | none => rw [hoi] at ho; simp at ho
  | some o =>
    rw [hoi] at ho
    simp only [Option.map_some, core, Option.some.injEq, Prod.mk.injEq] at ho
    obtain ⟨h1, h2, h3⟩ := ho
    simp only [wpOpsIn, hoi]
    rw [if_pos (says_wanted ha (by rw [h3]; exact hs))]
    obtain ⟨w', S', hr, hw', hl⟩ := hv a w o ha hw h2
    refine ⟨fun _ _ => trivial, ?_⟩
    rw [semAt_calm (by rw [h2]; exact hc1), hr, Oper.uponIn_skip, h1]
    exact hl _ _ ha hw'

def putE (d : Option Nat) (v : Value) (E : Env) : Env := match d with | some d => (d, v) :: E | none => E

/-- the next operation is a call that is entered -/
theorem Rg.enter {d : Option Nat} {op : Op} {g : Option (Nat × Bool)} {f : FuncId} {args : Array Value} (ho : opAt ops i = some (d, op, g))
    (hc : (calm op && (d.all fun d => Nat.blt d X.N) && Nat.blt i k && (says ops E g == some true)) = true)
    (hv : ∀ a w o, Knows X.N X.D E a → o.op = op → (execOp a.eval o).run X.P w = .ok (.enter f args) w)
    (hcall : ∀ w, Heap X.w0 S w → Calls X.P f args w fun e w' => ∃ v S', e = .returned v ∧ Heap X.w0 S' w' ∧ Rg X ops (i + 1) k (putE d v E) S' Q) :
    Rg X ops i k E S Q := by
  intro a w ha hw
  simp only [Bool.and_eq_true, beq_iff_eq, Nat.blt_eq] at hc
  obtain ⟨⟨⟨hc1, hd⟩, hik⟩, hs⟩ := hc
  rw [range_step (by simpa using hik)]
  simp only [opAt] at ho
  cases hoi : ops[i]? with
  | none => rw [hoi] at ho; simp at ho
  | some o =>
    rw [hoi] at ho
    simp only [Option.map_some, core, Option.some.injEq, Prod.mk.injEq] at ho
    obtain ⟨h1, h2, h3⟩ := ho
    simp only [wpOpsIn, hoi]
    rw [if_pos (says_wanted ha (by rw [h3]; exact hs))]
    refine ⟨fun _ _ => trivial, ?_⟩
    rw [semAt_calm (by rw [h2]; exact hc1), hv a w o ha h2, Oper.uponIn_enter]
    refine ⟨fun h => by simp [fence, Fence.wide] at h, ?_⟩
    have hcalls := hcall w hw
    have hcw : CallsIn Fence.wide (0 - 1) X.P f args w _ := callsIn_wide.2 hcalls
    have hcf : CallsIn (fence X.r) (0 - 1) X.P f args w (fun e w' => ∃ v S', e = .returned v ∧ Heap X.w0 S' w' ∧ Rg X ops (i + 1) k (putE d v E) S' Q) := hcw
    refine hcf.mono ?_
    rintro e w' ⟨v, S', rfl, hw', hl⟩
    dsimp only
    rw [h1]
    cases d with
    | none => exact hl _ _ ha hw'
    | some d => exact hl _ _ (ha.put (by simpa using hd) v) hw'

/-- these operations are passed over: their guard says no -/
theorem Rg.skip1 {d : Nat} {op : Op} {g : Option (Nat × Bool)} (ho : opAt ops i = some (some d, op, g))
    (hc : (Nat.blt d X.N && Nat.blt i k && (says ops E g == some false)) = true)
    (h : Rg X ops (i + 1) k ((d, undef) :: E) S Q) : Rg X ops i k E S Q := by
  intro a w ha hw
  simp only [Bool.and_eq_true, beq_iff_eq, Nat.blt_eq] at hc
  obtain ⟨⟨hd, hik⟩, hs⟩ := hc
  rw [range_step (by simpa using hik)]
  simp only [opAt] at ho
  cases hoi : ops[i]? with
  | none => rw [hoi] at ho; simp at ho
  | some o =>
    rw [hoi] at ho
    simp only [Option.map_some, core, Option.some.injEq, Prod.mk.injEq] at ho
    obtain ⟨h1, h2, h3⟩ := ho
    simp only [wpOpsIn, hoi]
    have hw' := says_wanted ha (by rw [h3]; exact hs)
    rw [if_neg (by rw [hw']; simp)]
    refine ⟨fun _ _ => trivial, ?_⟩
    rw [h1]
    exact h _ _ (ha.put hd undef) hw
end
end Go.Proofs.Ytfhhggcdmgjbcaa.Sx
