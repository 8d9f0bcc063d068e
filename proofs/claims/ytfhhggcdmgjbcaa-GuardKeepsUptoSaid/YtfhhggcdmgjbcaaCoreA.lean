/-
  A part of the walk of the seat: laws of a small proof system, and contracts of functions, each proved. Conditions: as each theorem says.
-/
import Derived.WalkKit
import Derived.OwnWalkIn
import Derived.CallsIn
import Derived.Deep.Quiet
import Derived.Lib.ConvBytes
import Derived.RangeFuncIn
import Derived.RangeFuncRecord
import Derived.RangeFuncLeaves
namespace Go.Proofs.Ytfhhggcdmgjbcaa.Sx
open Go Go.RowKit

/-! ### What is known of a frame -/
abbrev Env := List (Nat × Value)

def Env.get : Env → Nat → Option Value
  | [], _ => none
  | (s, v) :: E, t => cond (Nat.beq t s) (some v) (Env.get E t)

structure Knows (N : Nat) (D : List Deferred) (E : Env) (a : Act) : Prop where
  size : a.tmps.size = N
  defers : a.defers = D
  get : ∀ s v, E.get s = some v → a.tmps[s]? = some v

def Env.op (E : Env) : Operand → Option Value
  | .tmp t => E.get t
  | .const v => some v
  | .global g => some (.pointer (some ⟨g, 0, none⟩))
  | .func f => some (.func (.func f) #[] #[])

theorem Knows.eval {N D E a} (h : Knows N D E a) {x : Operand} {v : Value} (hx : E.op x = some v) : a.eval x = v := by
  cases x with
  | tmp t =>
    have := h.get t v hx
    simp [Act.eval, this]
  | const c => simpa [Env.op, Act.eval] using hx
  | global g => simpa [Env.op, Act.eval] using hx
  | func f => simpa [Env.op, Act.eval] using hx

theorem Knows.put {N D E a} (h : Knows N D E a) {d : Nat} (hd : d < N) (v : Value) : Knows N D ((d, v) :: E) (a.put (some d) v) := by
  refine ⟨by simp [Act.put, h.size], by simp [Act.put, h.defers], fun s u hs => ?_⟩
  simp only [Env.get] at hs
  by_cases e : s = d
  · subst e
    have : Nat.beq s s = true := by simp
    rw [this] at hs
    simp only [cond_true, Option.some.injEq] at hs
    subst hs
    simp only [Act.put]
    rw [Array.getElem?_setIfInBounds_self_of_lt (by rw [h.size]; exact hd)]
  · have : Nat.beq s d = false := by
      rw [Bool.eq_false_iff]; intro hb; exact e (Nat.eq_of_beq_eq_true hb)
    rw [this] at hs
    simp only [cond_false] at hs
    simp only [Act.put]
    rw [Array.getElem?_setIfInBounds_ne (by omega)]
    exact h.get s u hs

/-- a slot whose value is not known any more -/
def Env.drop (d : Nat) : Env → Env
  | [] => []
  | (s, v) :: E => cond (Nat.beq s d) (Env.drop d E) ((s, v) :: Env.drop d E)

/-- what is known is known -/
def Sub (E' E : Env) : Prop := ∀ s v, E'.get s = some v → E.get s = some v
theorem Sub.nil (E : Env) : Sub [] E := fun s v h => by simp [Env.get] at h
theorem Sub.cons {E' E : Env} {s : Nat} {v : Value} (h : E.get s = some v) (h' : Sub E' E) : Sub ((s, v) :: E') E := by
  intro t u ht
  simp only [Env.get] at ht
  cases hb : Nat.beq t s with
  | true =>
    rw [hb] at ht
    simp only [cond_true, Option.some.injEq] at ht
    rw [Nat.eq_of_beq_eq_true hb, ← ht]; exact h
  | false => rw [hb] at ht; exact h' t u (by simpa using ht)
theorem Knows.sub {N D E E' a} (h : Knows N D E a) (hs : Sub E' E) : Knows N D E' a := ⟨h.size, h.defers, fun s v hv => h.get s v (hs s v hv)⟩

/-! ### What is known of the memory -/
structure Item where
  fp : Nat → Prop
  ok : World → Prop
  stable : ∀ w w' : World, (∀ k, fp k → w'.heap[k]? = w.heap[k]?) → ok w → ok w'

def blk (b : Nat) (o : Obj) : Item := ⟨(· = b), fun w => w.heap[b]? = some o, fun _ _ h hw => (h b rfl).trans hw⟩

structure Heap (w0 : World) (S : List Item) (w : World) : Prop where
  os : w.os = w0.os
  tape : w.tape = w0.tape
  output : w.output = w0.output
  ok : ∀ it ∈ S, it.ok w
  low : ∀ it ∈ S, ∀ k, it.fp k → k < w.heap.size
  apart : S.Pairwise fun x y => ∀ k, x.fp k → ¬ y.fp k

section
variable {w0 w : World} {S : List Item}
theorem Heap.at_ (h : Heap w0 S w) (i : Nat) {it : Item} (hi : S[i]? = some it) : it.ok w := h.ok it (List.mem_of_getElem? hi)
theorem Heap.lt (h : Heap w0 S w) (i : Nat) {it : Item} (hi : S[i]? = some it) {k : Nat} (hk : it.fp k) : k < w.heap.size := h.low it (List.mem_of_getElem? hi) k hk
theorem Heap.blk_at (h : Heap w0 S w) (i : Nat) {b : Nat} {o : Obj} (hi : S[i]? = some (blk b o)) : w.heap[b]? = some o := h.at_ i hi
theorem Heap.blk_lt (h : Heap w0 S w) (i : Nat) {b : Nat} {o : Obj} (hi : S[i]? = some (blk b o)) : b < w.heap.size := h.lt i hi (k := b) rfl

/-- a new block -/
theorem Heap.alloc (h : Heap w0 S w) (o : Obj) : Heap w0 (blk w.heap.size o :: S) { w with heap := w.heap.push o } := by
  have hold : ∀ k, k < w.heap.size → (w.heap.push o)[k]? = w.heap[k]? := fun k hk => by
    rw [Array.getElem?_push, if_neg (by omega)]
  refine ⟨h.os, h.tape, h.output, fun it hit => ?_, fun it hit k hk => ?_, ?_⟩
  · rcases List.mem_cons.1 hit with rfl | hit
    · show (w.heap.push o)[w.heap.size]? = some o
      simp
    · exact it.stable w _ (fun k hk => hold k (h.low it hit k hk)) (h.ok it hit)
  · rcases List.mem_cons.1 hit with rfl | hit
    · have : k = w.heap.size := hk
      simp [this]
    · have := h.low it hit k hk
      simp; omega
  · refine List.Pairwise.cons (fun it hit k hk hk' => ?_) h.apart
    have e : k = w.heap.size := hk
    have := h.low it hit k hk'
    omega

/-- another world in which all these blocks lie as they lay -/
theorem Heap.keep (h : Heap w0 S w) {w' : World} (hos : w'.os = w.os) (ht : w'.tape = w.tape) (ho : w'.output = w.output) (hs : w.heap.size ≤ w'.heap.size)
    (hb : ∀ it ∈ S, ∀ k, it.fp k → w'.heap[k]? = w.heap[k]?) : Heap w0 S w' :=
  ⟨hos.trans h.os, ht.trans h.tape, ho.trans h.output, fun it hit => it.stable w w' (hb it hit) (h.ok it hit),
   fun it hit k hk => Nat.lt_of_lt_of_le (h.low it hit k hk) hs, h.apart⟩
theorem Heap.below (h : Heap w0 S w) {w' : World} (hb : Below w.heap.size w w') : Heap w0 S w' :=
  h.keep hb.os hb.tape hb.output hb.size fun it hit k hk => hb.block k (h.low it hit k hk)
theorem Heap.drew (h : Heap w0 S w) : Heap w0 S w.drew := ⟨h.os, h.tape, h.output, fun it hit => it.stable w _ (fun _ _ => rfl) (h.ok it hit), h.low, h.apart⟩

/-- fewer are known -/
theorem Heap.sub (h : Heap w0 S w) {S' : List Item} (hs : S'.Sublist S) : Heap w0 S' w :=
  ⟨h.os, h.tape, h.output, fun it hit => h.ok it (hs.subset hit), fun it hit => h.low it (hs.subset hit), h.apart.sublist hs⟩

/-- the block at place i is turned -/
theorem Heap.set (h : Heap w0 S w) (i : Nat) {b : Nat} {o : Obj} (hi : S[i]? = some (blk b o)) (o' : Obj) {w' : World} (hos : w'.os = w.os) (ht : w'.tape = w.tape) (ho : w'.output = w.output)
    (hs : w'.heap = w.heap.setIfInBounds b o') : Heap w0 (S.set i (blk b o')) w' := by
  have hlt : i < S.length := (List.getElem?_eq_some_iff.1 hi).1
  have hSi : S[i] = blk b o := (List.getElem?_eq_some_iff.1 hi).2
  have hb : b < w.heap.size := h.blk_lt i hi
  have hoth : ∀ k, k ≠ b → w'.heap[k]? = w.heap[k]? := fun k hk => by rw [hs, Array.getElem?_setIfInBounds_ne (by omega)]
  have hap : ∀ j, (hj : j < S.length) → j ≠ i → ∀ k, (S[j]).fp k → k ≠ b := by
    intro j hj hji k hk e
    subst e
    have hp := List.pairwise_iff_getElem.1 h.apart
    rcases Nat.lt_or_gt_of_ne hji with hlt' | hgt
    · exact hp j i hj hlt hlt' k hk (by rw [hSi]; rfl)
    · exact hp i j hlt hj hgt k (by rw [hSi]; rfl) hk
  refine ⟨hos.trans h.os, ht.trans h.tape, ho.trans h.output, fun it hit => ?_, fun it hit k hk => ?_, ?_⟩
  · obtain ⟨j, hj, rfl⟩ := List.mem_iff_getElem.1 hit
    rw [List.length_set] at hj
    by_cases e : j = i
    · subst e
      rw [List.getElem_set_self]
      show w'.heap[b]? = some o'
      rw [hs, Array.getElem?_setIfInBounds_self_of_lt hb]
    · rw [List.getElem_set_ne (by omega)]
      exact (S[j]).stable w w' (fun k hk => hoth k (hap j hj e k hk)) (h.ok _ (List.getElem_mem hj))
  · obtain ⟨j, hj, rfl⟩ := List.mem_iff_getElem.1 hit
    rw [List.length_set] at hj
    rw [hs, Array.size_setIfInBounds]
    by_cases e : j = i
    · subst e
      rw [List.getElem_set_self] at hk
      have : k = b := hk
      omega
    · rw [List.getElem_set_ne (by omega)] at hk
      exact h.low _ (List.getElem_mem hj) k hk
  · rw [List.pairwise_iff_getElem]
    intro x y hx hy hxy k
    rw [List.length_set] at hx hy
    have hp := List.pairwise_iff_getElem.1 h.apart x y hx hy hxy k
    intro h1 h2
    refine hp ?_ ?_
    · by_cases e : x = i
      · subst e; rw [List.getElem_set_self] at h1; rw [hSi]; exact h1
      · rwa [List.getElem_set_ne (by omega)] at h1
    · by_cases e : y = i
      · subst e; rw [List.getElem_set_self] at h2; rw [hSi]; exact h2
      · rwa [List.getElem_set_ne (by omega)] at h2
end

/-! ### The region: operations one behind the other -/
/-- the fence that lets everything: in no round, or in a round -/
def fence (r : Option Nat) : Fence := { Fence.wide with round := r }

/-- what does not turn in a call: the round, the program, the frame's size, the deferred calls, the world when the call began -/
structure Cx where
  r : Option Nat
  P : Program
  N : Nat
  D : List Deferred
  w0 : World

/-- the operations i, .., k - 1 of a region -/
def Rg (X : Cx) (ops : Array Oper) (i k : Nat) (E : Env) (S : List Item) (Q : Exit → Act → World → Prop) : Prop :=
  ∀ a w, Knows X.N X.D E a → Heap X.w0 S w → wpOpsIn (fence X.r) 0 X.P ops Q (List.range' i (k - i)) a w

/-- code, from a frame and a memory of which this is known -/
def Ev (X : Cx) (c : Code) (E : Env) (S : List Item) (Q : Exit → Act → World → Prop) : Prop :=
  ∀ a w, Knows X.N X.D E a → Heap X.w0 S w → c.wpIn (fence X.r) 0 X.P Q a w

/-- what an operation is, but for its place and its edges -/
def core (o : Oper) : Option Tmp × Op × Option (Nat × Bool) := (o.dst, o.op, o.guard)
def opAt (ops : Array Oper) (i : Nat) : Option (Option Tmp × Op × Option (Nat × Bool)) := (ops[i]?).map core

/-- no operation that the fence's round would carry out otherwise -/
def calm : Op → Bool
  | .defer _ => false
  | _ => true

/-- the guard's answer, as far as it is known -/
def says (ops : Array Oper) (E : Env) : Option (Nat × Bool) → Option Bool
  | none => some true
  | some (j, want) =>
    match (ops[j]?).bind (·.dst) with
    | some t => match E.get t with
      | some (.bool b) => some (b == want)
      | some _ => some false
      | none => none
    | none => none

theorem semAt_calm {o : Oper} (h : calm o.op = true) (r : Option Nat) (ρ : Operand → Value) : o.semAt r ρ = execOp ρ o :=
  Oper.semAt_eq r ρ o (fun c e => by rw [e] at h; simp [calm] at h)

section
variable {X : Cx} {ops : Array Oper} {i k : Nat} {E : Env} {S : List Item} {Q : Exit → Act → World → Prop}

theorem says_wanted {o : Oper} {a : Act} {b : Bool} (ha : Knows X.N X.D E a) (h : says ops E o.guard = some b) : Region.wanted o (yielded ops a.tmps) = b := by
  unfold says at h
  unfold Region.wanted
  split at h
  · rename_i hg; simp only [Option.some.injEq] at h; simp [hg, ← h]
  · rename_i j want hg
    rw [hg]
    dsimp only
    split at h
    · rename_i t ht
      split at h
      · rename_i b' hb
        have := ha.get t _ hb
        simp only [Option.some.injEq] at h
        rw [← h]
        simp [yielded, ht, this]
      · rename_i v hne hv
        have := ha.get t _ hv
        simp only [Option.some.injEq] at h
        rw [← h]
        simp only [yielded, ht, Option.bind_some, this]
        cases v <;> first | rfl | exact (hne _ rfl).elim
      · cases h
    · cases h

theorem range_step (h : Nat.blt i k = true) : List.range' i (k - i) = i :: List.range' (i + 1) (k - (i + 1)) := by
  have h' : i < k := by simpa using h
  obtain ⟨m, hm⟩ : ∃ m, k - i = m + 1 := ⟨k - i - 1, by omega⟩
  have e : k - (i + 1) = m := by omega
  rw [hm, List.range'_succ, e]

theorem Rg.done (h : ∀ a w, Knows X.N X.D E a → Heap X.w0 S w → Q .normal a w) (hk : Nat.ble k i = true := by rfl) : Rg X ops i k E S Q := by
  intro a w ha hw
  have h' : k ≤ i := by simpa using hk
  have : k - i = 0 := by omega
  rw [this]
  exact h a w ha hw

/-- the next operation is carried out: a value -/
theorem Rg.value {d : Nat} {op : Op} {g : Option (Nat × Bool)} (ho : opAt ops i = some (some d, op, g))
    (hc : (calm op && Nat.blt d X.N && Nat.blt i k && (says ops E g == some true)) = true)
    (hv : ∀ a w o, Knows X.N X.D E a → Heap X.w0 S w → o.op = op → ∃ v w' S', (execOp a.eval o).run X.P w = .ok (.value v) w' ∧ Heap X.w0 S' w' ∧ Rg X ops (i + 1) k ((d, v) :: E) S' Q) :
    Rg X ops i k E S Q := by
  intro a w ha hw
  simp only [Bool.and_eq_true, beq_iff_eq, Nat.blt_eq] at hc
  obtain ⟨⟨⟨hc1, hd⟩, hik⟩, hs⟩ := hc
  rw [range_step (by simpa using hik)]
  simp only [opAt] at ho
  cases hoi : ops[i]? with
  | none => rw [hoi] at ho; simp at ho
  | some o =>
    rw [hoi] at ho
    simp only [Option.map_some, core, Option.some.injEq, Prod.mk.injEq] at ho
    obtain ⟨h1, h2, h3⟩ := ho
    simp only [wpOpsIn, hoi]
    rw [if_pos (says_wanted ha (by rw [h3]; exact hs))]
    obtain ⟨v, w', S', hr, hw', hl⟩ := hv a w o ha hw h2
    refine ⟨fun _ _ => trivial, ?_⟩
    rw [semAt_calm (by rw [h2]; exact hc1), hr, Oper.uponIn_value, h1]
    exact hl _ _ (ha.put hd v) hw'

/-- the next operation is carried out: no value (a store) -/
theorem Rg.quiet {op : Op} {g : Option (Nat × Bool)} (ho : opAt ops i = some (none, op, g))
    (hc : (calm op && Nat.blt i k && (says ops E g == some true)) = true)
    (hv : ∀ a w o, Knows X.N X.D E a → Heap X.w0 S w → o.op = op → ∃ w' S', (execOp a.eval o).run X.P w = .ok .skip w' ∧ Heap X.w0 S' w' ∧ Rg X ops (i + 1) k E S' Q) :
    Rg X ops i k E S Q := by
  intro a w ha hw
  simp only [Bool.and_eq_true, beq_iff_eq, Nat.blt_eq] at hc
  obtain ⟨⟨hc1, hik⟩, hs⟩ := hc
  rw [range_step (by simpa using hik)]
  simp only [opAt] at ho
  cases hoi : ops[i]? with
  | none => rw [hoi] at ho; simp at ho
  | some o =>
    rw [hoi] at ho
    simp only [Option.map_some, core, Option.some.injEq, Prod.mk.injEq] at ho
    obtain ⟨h1, h2, h3⟩ := ho
    simp only [wpOpsIn, hoi]
    rw [if_pos (says_wanted ha (by rw [h3]; exact hs))]
    obtain ⟨w', S', hr, hw', hl⟩ := hv a w o ha hw h2
    refine ⟨fun _ _ => trivial, ?_⟩
    rw [semAt_calm (by rw [h2]; exact hc1), hr, Oper.uponIn_skip, h1]
    exact hl _ _ ha hw'

def putE (d : Option Nat) (v : Value) (E : Env) : Env := match d with | some d => (d, v) :: E | none => E

/-- the next operation is a call that is entered -/
theorem Rg.enter {d : Option Nat} {op : Op} {g : Option (Nat × Bool)} {f : FuncId} {args : Array Value} (ho : opAt ops i = some (d, op, g))
    (hc : (calm op && (d.all fun d => Nat.blt d X.N) && Nat.blt i k && (says ops E g == some true)) = true)
    (hv : ∀ a w o, Knows X.N X.D E a → o.op = op → (execOp a.eval o).run X.P w = .ok (.enter f args) w)
    (hcall : ∀ w, Heap X.w0 S w → Calls X.P f args w fun e w' => ∃ v S', e = .returned v ∧ Heap X.w0 S' w' ∧ Rg X ops (i + 1) k (putE d v E) S' Q) :
    Rg X ops i k E S Q := by
  intro a w ha hw
  simp only [Bool.and_eq_true, beq_iff_eq, Nat.blt_eq] at hc
  obtain ⟨⟨⟨hc1, hd⟩, hik⟩, hs⟩ := hc
  rw [range_step (by simpa using hik)]
  simp only [opAt] at ho
  cases hoi : ops[i]? with
  | none => rw [hoi] at ho; simp at ho
  | some o =>
    rw [hoi] at ho
    simp only [Option.map_some, core, Option.some.injEq, Prod.mk.injEq] at ho
    obtain ⟨h1, h2, h3⟩ := ho
    simp only [wpOpsIn, hoi]
    rw [if_pos (says_wanted ha (by rw [h3]; exact hs))]
    refine ⟨fun _ _ => trivial, ?_⟩
    rw [semAt_calm (by rw [h2]; exact hc1), hv a w o ha h2, Oper.uponIn_enter]
    refine ⟨fun h => by simp [fence, Fence.wide] at h, ?_⟩
    have hcalls := hcall w hw
    have hcw : CallsIn Fence.wide (0 - 1) X.P f args w _ := callsIn_wide.2 hcalls
    have hcf : CallsIn (fence X.r) (0 - 1) X.P f args w (fun e w' => ∃ v S', e = .returned v ∧ Heap X.w0 S' w' ∧ Rg X ops (i + 1) k (putE d v E) S' Q) := hcw
    refine hcf.mono ?_
    rintro e w' ⟨v, S', rfl, hw', hl⟩
    dsimp only
    rw [h1]
    cases d with
    | none => exact hl _ _ ha hw'
    | some d => exact hl _ _ (ha.put (by simpa using hd) v) hw'

/-- these operations are passed over: their guard says no -/
theorem Rg.skip1 {d : Nat} {op : Op} {g : Option (Nat × Bool)} (ho : opAt ops i = some (some d, op, g))
    (hc : (Nat.blt d X.N && Nat.blt i k && (says ops E g == some false)) = true)
    (h : Rg X ops (i + 1) k ((d, undef) :: E) S Q) : Rg X ops i k E S Q := by
  intro a w ha hw
  simp only [Bool.and_eq_true, beq_iff_eq, Nat.blt_eq] at hc
  obtain ⟨⟨hd, hik⟩, hs⟩ := hc
  rw [range_step (by simpa using hik)]
  simp only [opAt] at ho
  cases hoi : ops[i]? with
  | none => rw [hoi] at ho; simp at ho
  | some o =>
    rw [hoi] at ho
    simp only [Option.map_some, core, Option.some.injEq, Prod.mk.injEq] at ho
    obtain ⟨h1, h2, h3⟩ := ho
    simp only [wpOpsIn, hoi]
    have hw' := says_wanted ha (by rw [h3]; exact hs)
    rw [if_neg (by rw [hw']; simp)]
    refine ⟨fun _ _ => trivial, ?_⟩
    rw [h1]
    exact h _ _ (ha.put hd undef) hw
end
end Go.Proofs.Ytfhhggcdmgjbcaa.Sx

namespace Go.Proofs.Ytfhhggcdmgjbcaa.Sx
open Go Go.RowKit

/-- the operation yields this value, the memory as it is -/
def PV (X : Cx) (E : Env) (S : List Item) (op : Op) (v : Value) : Prop :=
  ∀ a w o, Knows X.N X.D E a → Heap X.w0 S w → o.op = op → (execOp a.eval o).run X.P w = .ok (.value v) w

section
variable {X : Cx} {ops : Array Oper} {i k : Nat} {E : Env} {S : List Item} {Q : Exit → Act → World → Prop}

theorem Rg.pure {d : Nat} {op : Op} {g : Option (Nat × Bool)} {v : Value} (ho : opAt ops i = some (some d, op, g))
    (hc : (calm op && Nat.blt d X.N && Nat.blt i k && (says ops E g == some true)) = true)
    (hv : PV X E S op v) (h : Rg X ops (i + 1) k ((d, v) :: E) S Q) : Rg X ops i k E S Q :=
  Rg.value ho hc fun a w o ha hw hop => ⟨v, w, S, hv a w o ha hw hop, hw, h⟩

/-! ### Values that ask nothing of the memory -/
theorem pv_move {x : Operand} {v : Value} (h : E.op x = some v) : PV X E S (.move x) v := by
  intro a w o ha _ ho
  unfold execOp; rw [ho]; simp [ha.eval h]
theorem pv_assign {x : Operand} {v : Value} (h : E.op x = some v) : PV X E S (.assign x) v := by
  intro a w o ha _ ho
  unfold execOp; rw [ho]; simp [ha.eval h]
theorem pv_pick_t {c x y : Operand} {v : Value} (hc : E.op c = some (.bool true)) (h : E.op x = some v) : PV X E S (.pick c x y) v := by
  intro a w o ha _ ho
  unfold execOp; rw [ho]; simp [ha.eval h, ha.eval hc, asBool]
theorem pv_pick_f {c x y : Operand} {v : Value} (hc : E.op c = some (.bool false)) (h : E.op y = some v) : PV X E S (.pick c x y) v := by
  intro a w o ha _ ho
  unfold execOp; rw [ho]; simp [ha.eval h, ha.eval hc, asBool]
theorem pv_nilCheck {x : Operand} {p : Addr} (h : E.op x = some (.pointer (some p))) : PV X E S (.nilCheck x) (.pointer (some p)) := by
  intro a w o ha _ ho
  unfold execOp; rw [ho]; simp [ha.eval h]
theorem pv_nilCheck_func {x : Operand} {f : FuncId} {fs cs : Array Value} (h : E.op x = some (.func (.func f) fs cs)) : PV X E S (.nilCheck x) (.func (.func f) fs cs) := by
  intro a w o ha _ ho
  unfold execOp; rw [ho]; simp [ha.eval h]
theorem pv_extract {x : Operand} {j : Nat} {vs : Array Value} {v : Value} (h : E.op x = some (.tuple vs)) (hv : vs[j]? = some v) : PV X E S (.extract x j) v := by
  intro a w o ha _ ho
  unfold execOp; rw [ho]; simp [ha.eval h, Instr.extract, hv]
def Env.opsOf (E : Env) : List Operand → Option (List Value)
  | [] => some []
  | x :: xs => match E.op x, Env.opsOf E xs with
    | some v, some vs => some (v :: vs)
    | _, _ => none
theorem Knows.evals {N D E a} (ha : Knows N D E a) : ∀ {xs : List Operand} {vs : List Value}, Env.opsOf E xs = some vs → xs.map a.eval = vs := by
  intro xs
  induction xs with
  | nil => intro vs h; simp [Env.opsOf] at h; simp [← h]
  | cons x xs ih =>
    intro vs h
    simp only [Env.opsOf] at h
    split at h
    · rename_i v ws hv hws
      simp only [Option.some.injEq] at h
      rw [← h, List.map_cons, ha.eval hv, ih hws]
    · cases h
theorem pv_makeFunc {fn : Fn} {xs : List Operand} {vs : List Value} (h : Env.opsOf E xs = some vs) : PV X E S (.makeFunc fn #[] xs.toArray) (.func fn #[] vs.toArray) := by
  intro a w o ha _ ho
  unfold execOp; rw [ho]; simp [Instr.makeFunc, ha.evals h]

/-! ### Numbers -/
theorem eqGuard_int {P : Program} {w : World} {op : BinOp} {t : TypeId} {x y : Operand} {k k' : IntKind} {m n : Int} : (eqGuard op t x y (.int k m) (.int k' n)).run P w = .ok () w := by
  unfold eqGuard
  split <;> simp
theorem eqGuard_str {P : Program} {w : World} {op : BinOp} {t : TypeId} {x y : Operand} {m n : ByteArray} : (eqGuard op t x y (.string m) (.string n)).run P w = .ok () w := by
  unfold eqGuard
  split <;> simp
theorem eqGuard_bool {P : Program} {w : World} {op : BinOp} {t : TypeId} {x y : Operand} {m n : Bool} : (eqGuard op t x y (.bool m) (.bool n)).run P w = .ok () w := by
  unfold eqGuard
  split <;> simp

section
variable {t u : TypeId} {x y : Operand} {q : IntKind} {m n : Int}
theorem pv_int {op : BinOp} {v : Value} (hx : E.op x = some (.int q m)) (hy : E.op y = some (.int q n)) (hb : ∀ w, (binOp op t (.int q m) (.int q n)).run X.P w = .ok v w) : PV X E S (.binOp op t x y u) v := by
  intro a w o ha _ ho
  unfold execOp; rw [ho]; simp [ha.eval hx, ha.eval hy, eqGuard_int, hb]
theorem pv_lss (hx : E.op x = some (.int q m)) (hy : E.op y = some (.int q n)) : PV X E S (.binOp .lss t x y u) (.bool (decide (m < n))) :=
  pv_int hx hy fun w => by simp [binOp, Op.intCmp]
theorem pv_leq (hx : E.op x = some (.int q m)) (hy : E.op y = some (.int q n)) : PV X E S (.binOp .leq t x y u) (.bool (decide (m ≤ n))) :=
  pv_int hx hy fun w => by simp [binOp, Op.intCmp]
theorem pv_gtr (hx : E.op x = some (.int q m)) (hy : E.op y = some (.int q n)) : PV X E S (.binOp .gtr t x y u) (.bool (decide (n < m))) :=
  pv_int hx hy fun w => by simp [binOp, Op.intCmp]
theorem pv_geq (hx : E.op x = some (.int q m)) (hy : E.op y = some (.int q n)) : PV X E S (.binOp .geq t x y u) (.bool (decide (n ≤ m))) :=
  pv_int hx hy fun w => by simp [binOp, Op.intCmp]
theorem pv_eql (hx : E.op x = some (.int q m)) (hy : E.op y = some (.int q n)) : PV X E S (.binOp .eql t x y u) (.bool (decide (m = n))) :=
  pv_int hx hy fun w => by simp only [binOp, Op.intCmp]; simp; rfl
theorem pv_neq (hx : E.op x = some (.int q m)) (hy : E.op y = some (.int q n)) : PV X E S (.binOp .neq t x y u) (.bool (!decide (m = n))) :=
  pv_int hx hy fun w => by simp only [binOp, Op.intCmp]; simp; rfl
theorem pv_add (hx : E.op x = some (.int q m)) (hy : E.op y = some (.int q n)) : PV X E S (.binOp .add t x y u) (.int q (q.wrap (m + n))) :=
  pv_int hx hy fun w => by simp [binOp, Op.intArith]
theorem pv_sub (hx : E.op x = some (.int q m)) (hy : E.op y = some (.int q n)) : PV X E S (.binOp .sub t x y u) (.int q (q.wrap (m - n))) :=
  pv_int hx hy fun w => by simp [binOp, Op.intArith]
theorem pv_mul (hx : E.op x = some (.int q m)) (hy : E.op y = some (.int q n)) : PV X E S (.binOp .mul t x y u) (.int q (q.wrap (m * n))) :=
  pv_int hx hy fun w => by simp [binOp, Op.intArith]
/-- with the sum's bounds known: the sum itself -/
def inKind (q : IntKind) (m : Int) : Prop := q.wrap m = m
theorem pv_addb (hx : E.op x = some (.int q m)) (hy : E.op y = some (.int q n)) (h : inKind q (m + n)) : PV X E S (.binOp .add t x y u) (.int q (m + n)) := by
  have := pv_add (X := X) (S := S) (t := t) (u := u) hx hy
  rwa [show q.wrap (m + n) = m + n from h] at this
theorem pv_subb (hx : E.op x = some (.int q m)) (hy : E.op y = some (.int q n)) (h : inKind q (m - n)) : PV X E S (.binOp .sub t x y u) (.int q (m - n)) := by
  have := pv_sub (X := X) (S := S) (t := t) (u := u) hx hy
  rwa [show q.wrap (m - n) = m - n from h] at this
theorem pv_mulb (hx : E.op x = some (.int q m)) (hy : E.op y = some (.int q n)) (h : inKind q (m * n)) : PV X E S (.binOp .mul t x y u) (.int q (m * n)) := by
  have := pv_mul (X := X) (S := S) (t := t) (u := u) hx hy
  rwa [show q.wrap (m * n) = m * n from h] at this
theorem pv_not {b : Bool} (hx : E.op x = some (.bool b)) : PV X E S (.unOp .not t x) (.bool (!b)) := by
  intro a w o ha _ ho
  unfold execOp; rw [ho]; simp [ha.eval hx, Op.unary]
end
theorem in_i64 {m : Int} (h1 : -9223372036854775808 ≤ m) (h2 : m ≤ 9223372036854775807) : inKind .i64 m := IntWalk.i64_in _ ⟨h1, h2⟩
end
end Go.Proofs.Ytfhhggcdmgjbcaa.Sx

namespace Go.Proofs.Ytfhhggcdmgjbcaa.Sx
open Go Go.RowKit

def fieldOff (P : Program) (s : TypeId) (f : Nat) : Option Nat :=
  match P.underlying s with
  | some (.struct fs) => match fs[f]? with
    | some fl => match P.info? fl.type with
      | some i => if Nat.beq i.size 0 then none else some fl.offset
      | none => none
    | none => none
  | _ => none
def isAggT (P : Program) (t : TypeId) : Bool := match P.underlying t with
  | some (.struct _) | some (.array _ _) => true
  | _ => false
def oneT (P : Program) (t : TypeId) : Bool := match P.underlying t with
  | some (.struct _) | some (.array _ _) | none => false
  | _ => true
def szT (P : Program) (t : TypeId) : Option Nat := (P.info? t).map (·.size)
def elemT (P : Program) (t : TypeId) : Option (TypeId × Nat) := match P.underlying t with
  | some (.slice e) => (szT P e).map fun n => (e, n)
  | _ => none
def zeroT (P : Program) (t : TypeId) : Option Value := (P.info? t).bind (·.zero)
def isSliceT (P : Program) (t : TypeId) : Bool := match P.underlying t with | some (.slice _) => true | _ => false
def isStringT (P : Program) (t : TypeId) : Bool := match P.underlying t with | some .string => true | _ => false

section
variable {P : Program} {w : World}
theorem run_isAgg_t {t : TypeId} (h : isAggT P t = true) : (isAgg t).run P w = .ok true w := by
  unfold isAggT at h
  unfold isAgg
  split at h <;> first | (rename_i h'; simp [run_underlying h']) | cases h
theorem run_isAgg_f {t : TypeId} (h : oneT P t = true) : (isAgg t).run P w = .ok false w := by
  unfold oneT at h
  unfold isAgg
  cases hu : P.underlying t with
  | none => rw [hu] at h; cases h
  | some d =>
    rw [hu] at h
    rw [Sem.run_bind, run_underlying hu]
    cases d <;> first | rfl | cases h
theorem run_szOf {t : TypeId} {n : Nat} (h : szT P t = some n) : (Go.sizeOf t).run P w = .ok n w := by
  unfold szT at h
  cases hi : P.info? t with
  | none => rw [hi] at h; cases h
  | some i => rw [hi] at h; simp at h; simp [Go.sizeOf, typeInfo, hi, h]
theorem run_zero {t : TypeId} {v : Value} (h : zeroT P t = some v) : (zeroValue t).run P w = .ok v w := by
  unfold zeroT at h
  cases hi : P.info? t with
  | none => rw [hi] at h; cases h
  | some i => rw [hi] at h; simp at h; simp [zeroValue, typeInfo, hi, h]
theorem run_fieldAt {s : TypeId} {f o : Nat} {a : Addr} (h : fieldOff P s f = some o) : (Instr.fieldAt s (.pointer (some a)) f).run P w = .ok (.pointer (some (a.add o))) w := by
  unfold fieldOff at h
  split at h
  · rename_i fs hu
    split at h
    · rename_i fl hf
      split at h
      · rename_i i hi
        split at h
        · cases h
        · rename_i hz
          simp only [Option.some.injEq] at h
          have hz' : i.size ≠ 0 := by simpa using hz
          simp [Instr.fieldAt, run_underlying hu, hf, Instr.sureAddr, fieldPlace, Go.sizeOf, typeInfo, hi, hz', h]
      · cases h
    · cases h
  · cases h
theorem run_loadVar_one {t : TypeId} {a : Addr} {v : Value} (h : oneT P t = true) (hc : w.cell? a = some v) : (loadVar t a).run P w = .ok v w := by
  unfold loadVar
  rw [Sem.run_bind, run_isAgg_f h]
  simp [hc]
theorem run_loadVar_agg {t : TypeId} {a : Addr} {cs : Array Value} (h : isAggT P t = true) (hs : szT P t = some cs.size)
    (hc : ∀ j, j < cs.size → w.cell? (a.add j) = cs[j]?) : (loadVar t a).run P w = .ok (.agg cs) w := by
  unfold loadVar
  rw [Sem.run_bind, run_isAgg_t h]
  have hl := run_loadCells_list (P := P) w a cs.toList (fun j v hv => by
    have hv' : cs[j]? = some v := by simpa using hv
    rw [hc j (Array.getElem?_eq_some_iff.1 hv').1, hv'])
  simp only [Array.length_toList, Array.toArray_toList] at hl
  simp [run_szOf hs, hl]
end
theorem add_mk (b o n : Nat) : (⟨b, o, none⟩ : Addr).add n = ⟨b, o + n, none⟩ := by
  unfold Addr.add; split
  · rename_i h; subst h; rfl
  · rfl
theorem cell_blk {w : World} {b : Nat} {cs : Array Value} {t : TypeId} {fr : Nat × Nat} (h : w.heap[b]? = some (.cells cs t fr)) (o : Nat) : w.cell? ⟨b, o, none⟩ = cs[o]? := by
  simp [World.cell?, h]

section
variable {X : Cx} {ops : Array Oper} {i k : Nat} {E : Env} {S : List Item} {Q : Exit → Act → World → Prop}

theorem pv_fieldAddr {s : TypeId} {x : Operand} {f b o n : Nat} (hx : E.op x = some (.pointer (some ⟨b, o, none⟩))) (hf : fieldOff X.P s f = some n) : PV X E S (.fieldAddr s x f) (.pointer (some ⟨b, o + n, none⟩)) := by
  intro a w op ha _ ho
  unfold execOp; rw [ho]; simp [ha.eval hx, run_fieldAt hf, add_mk]
theorem pv_indexAddr {t e : TypeId} {x y : Operand} {b o len cap sz : Nat} {q : IntKind} {n : Int} (hx : E.op x = some (.slice (some ⟨b, o, none⟩) len cap)) (hy : E.op y = some (.int q n))
    (he : elemT X.P t = some (e, sz)) (h0 : 0 ≤ n) (h1 : n < len) : PV X E S (.indexAddr t x y) (.pointer (some ⟨b, o + n.toNat * sz, none⟩)) := by
  intro a w op ha _ ho
  unfold elemT at he
  split at he
  · rename_i e' hu
    cases hs : szT X.P e' with
    | none => rw [hs] at he; cases he
    | some m =>
      rw [hs] at he; simp at he
      obtain ⟨rfl, rfl⟩ := he
      unfold execOp; rw [ho]
      simp [ha.eval hx, ha.eval hy, Instr.indexAt, asIntOf, run_underlying hu, h0, h1, run_szOf hs, add_mk]
  · cases he
theorem pv_len_slice {t : TypeId} {x : Operand} {p : Option Addr} {n c : Nat} (hx : E.op x = some (.slice p n c)) (ht : isSliceT X.P t = true) :
    PV X E S (.call { callee := .builtin .len, args := #[x], argTypes := #[t] }) (.int .i64 n) := by
  intro a w op ha _ ho
  unfold isSliceT at ht
  split at ht
  · rename_i e hu
    unfold execOp; rw [ho]; simp [resolve, invoke, builtin, ha.eval hx, Builtin.len_, run_underlying hu, goInt]
  · cases ht
theorem pv_len_string {t : TypeId} {x : Operand} {s : ByteArray} (hx : E.op x = some (.string s)) (ht : isStringT X.P t = true) :
    PV X E S (.call { callee := .builtin .len, args := #[x], argTypes := #[t] }) (.int .i64 s.size) := by
  intro a w op ha _ ho
  unfold isStringT at ht
  split at ht
  · rename_i hu
    unfold execOp; rw [ho]; simp [resolve, invoke, builtin, ha.eval hx, Builtin.len_, run_underlying hu, goInt]
  · cases ht

/-! ### Loads -/
theorem pv_load {t : TypeId} {x : Operand} {p : Addr} {v : Value} (hx : E.op x = some (.pointer (some p))) (ht : oneT X.P t = true) (hc : ∀ w, Heap X.w0 S w → w.cell? p = some v) :
    PV X E S (.load t x) v := by
  intro a w op ha hw ho
  unfold execOp; rw [ho]; simp [ha.eval hx, Instr.loadAt, Instr.sureAddr, run_loadVar_one ht (hc w hw)]
theorem pv_load_agg {t : TypeId} {x : Operand} {p : Addr} {cs : Array Value} (hx : E.op x = some (.pointer (some p))) (ht : isAggT X.P t = true) (hs : szT X.P t = some cs.size)
    (hc : ∀ w, Heap X.w0 S w → ∀ j, j < cs.size → w.cell? (p.add j) = cs[j]?) : PV X E S (.load t x) (.agg cs) := by
  intro a w op ha hw ho
  unfold execOp; rw [ho]; simp [ha.eval hx, Instr.loadAt, Instr.sureAddr, run_loadVar_agg ht hs (hc w hw)]
/-- out of a block that is known -/
theorem pv_load_blk {t u : TypeId} {x : Operand} {b o : Nat} {cs : Array Value} {fr : Nat × Nat} {v : Value} (j : Nat) (hx : E.op x = some (.pointer (some ⟨b, o, none⟩)))
    (hj : S[j]? = some (blk b (.cells cs u fr))) (ht : oneT X.P t = true) (hv : cs[o]? = some v) : PV X E S (.load t x) v :=
  pv_load hx ht fun w hw => (cell_blk (hw.blk_at j hj) o).trans hv
/-- a part of a known block, as a whole -/
theorem pv_load_blk_agg {t u : TypeId} {x : Operand} {b o : Nat} {cs : Array Value} {fr : Nat × Nat} {vs : Array Value} (j : Nat) (hx : E.op x = some (.pointer (some ⟨b, o, none⟩)))
    (hj : S[j]? = some (blk b (.cells cs u fr))) (ht : isAggT X.P t = true) (hs : szT X.P t = some vs.size) (hv : ∀ n, n < vs.size → cs[o + n]? = vs[n]?) : PV X E S (.load t x) (.agg vs) :=
  pv_load_agg hx ht hs fun w hw n hn => by rw [add_mk, cell_blk (hw.blk_at j hj), hv n hn]

/-! ### New blocks -/
theorem rg_box {d : Nat} {t : TypeId} {x : Operand} {g : Option (Nat × Bool)} {v : Value} (ho : opAt ops i = some (some d, .box t x, g))
    (hc : (calm (.box t x) && Nat.blt d X.N && Nat.blt i k && (says ops E g == some true)) = true) (hx : E.op x = some v)
    (h : ∀ b, Rg X ops (i + 1) k ((d, .pointer (some ⟨b, 0, none⟩)) :: E) (blk b (.cells v.cells t) :: S) Q) : Rg X ops i k E S Q :=
  Rg.value ho hc fun a w o ha hw hop => ⟨_, _, _, by unfold execOp; rw [hop]; simp [ha.eval hx, Instr.box, newVar, newRow], hw.alloc _, h _⟩
theorem rg_alloc {d : Nat} {t : TypeId} {g : Option (Nat × Bool)} {v : Value} (ho : opAt ops i = some (some d, .alloc t, g))
    (hc : (calm (.alloc t) && Nat.blt d X.N && Nat.blt i k && (says ops E g == some true)) = true) (hz : zeroT X.P t = some v)
    (h : ∀ b, Rg X ops (i + 1) k ((d, .pointer (some ⟨b, 0, none⟩)) :: E) (blk b (.cells v.cells t) :: S) Q) : Rg X ops i k E S Q :=
  Rg.value ho hc fun _ _ _ _ hw hop => ⟨_, _, _, by unfold execOp; rw [hop]; simp [Instr.alloc, run_zero hz, newVar, newRow], hw.alloc _, h _⟩

/-! ### Stores -/
def putCells (cs : Array Value) (o : Nat) : List Value → Array Value
  | [] => cs
  | v :: vs => putCells (cs.setIfInBounds o v) (o + 1) vs
theorem putCells_size : ∀ (vs : List Value) (cs : Array Value) (o : Nat), (putCells cs o vs).size = cs.size := by
  intro vs
  induction vs with
  | nil => intro cs o; rfl
  | cons v vs ih => intro cs o; simp [putCells, ih]

theorem setCell_blk {w : World} {b : Nat} {cs : Array Value} {t : TypeId} {fr : Nat × Nat} (h : w.heap[b]? = some (.cells cs t fr)) (o : Nat) (v : Value) :
    w.setCell ⟨b, o, none⟩ v = { w with heap := w.heap.setIfInBounds b (.cells (cs.setIfInBounds o v) t fr) } := by
  have hb : b < w.heap.size := (Array.getElem?_eq_some_iff.1 h).1
  have hg : w.heap[b] = .cells cs t fr := (Array.getElem?_eq_some_iff.1 h).2
  unfold World.setCell
  congr 1
  apply Array.ext
  · simp
  · intro j h1 h2
    rw [Array.getElem_modify]
    by_cases e : b = j
    · subst e; simp [hg]
    · rw [if_neg e, Array.getElem_setIfInBounds_ne (by simpa using h2) e]

theorem run_storeCells {P : Program} {t : TypeId} : ∀ (vs : List Value) (w : World) (b o j : Nat) (cs : Array Value), w.heap[b]? = some (.cells cs t (0, 0)) → o + j + vs.length ≤ cs.size → (vs.all (·.oneCell')) = true →
    (storeCells ⟨b, o, none⟩ vs j).run P w = .ok () { w with heap := w.heap.setIfInBounds b (.cells (putCells cs (o + j) vs) t (0, 0)) } := by
  intro vs
  induction vs with
  | nil =>
    intro w b o j cs h _ _
    simp only [storeCells, Sem.run_pure, putCells]
    congr 1
    have hb : b < w.heap.size := (Array.getElem?_eq_some_iff.1 h).1
    have hg : w.heap[b] = .cells cs t (0, 0) := (Array.getElem?_eq_some_iff.1 h).2
    have e : w.heap.setIfInBounds b (.cells cs t (0, 0)) = w.heap := by
      apply Array.ext
      · simp
      · intro j h1 h2
        by_cases e : b = j
        · subst e; simp [hg]
        · rw [Array.getElem_setIfInBounds_ne (by simpa using h1) e]
    rw [e]
  | cons v vs ih =>
    intro w b o j cs h hle hone
    simp only [List.length_cons] at hle
    simp only [List.all_cons, Bool.and_eq_true] at hone
    unfold storeCells
    rw [Sem.run_bind, add_mk, run_store _ _ _ _ _ hone.1]
    have hc : w.cell? ⟨b, o + j, none⟩ = cs[o + j]? := cell_blk h _
    have hlt : o + j < cs.size := by omega
    rw [hc, Array.getElem?_eq_getElem hlt]
    have hfr : w.frozen? ⟨b, o + j, none⟩ = false := by simp [World.frozen?, h]
    simp only [hfr]
    rw [setCell_blk h]
    simp only [Bool.false_eq_true, if_false, Result.andThen_ok]
    have hb : b < w.heap.size := (Array.getElem?_eq_some_iff.1 h).1
    rw [ih _ b o (j + 1) (cs.setIfInBounds (o + j) v) (by simp [hb]) (by simp; omega) hone.2]
    simp [putCells, Nat.add_assoc]

theorem run_storeVar {P : Program} {t ty : TypeId} {v : Value} {w : World} {b o : Nat} {cs : Array Value} (h : w.heap[b]? = some (.cells cs t (0, 0))) (hs : szT P ty = some v.cells.size)
    (hle : o + v.cells.size ≤ cs.size) (hone : (v.cells.toList.all (·.oneCell')) = true) :
    (storeVar ty ⟨b, o, none⟩ v).run P w = .ok () { w with heap := w.heap.setIfInBounds b (.cells (putCells cs o v.cells.toList) t (0, 0)) } := by
  unfold storeVar
  rw [Sem.run_bind, run_szOf hs]
  have := run_storeCells (P := P) v.cells.toList w b o 0 cs h (by simpa using hle) hone
  simp [this]

/-- a store into a known block: what it holds then is given -/
theorem rg_store {t u : TypeId} {x y : Operand} {g : Option (Nat × Bool)} {b o : Nat} {v : Value} {cs cs' : Array Value} (j : Nat) (ho : opAt ops i = some (none, .store t x y, g))
    (hc : (calm (.store t x y) && Nat.blt i k && (says ops E g == some true)) = true) (hx : E.op x = some (.pointer (some ⟨b, o, none⟩))) (hy : E.op y = some v)
    (hj : S[j]? = some (blk b (.cells cs u (0, 0)))) (hs : szT X.P t = some v.cells.size) (hle : o + v.cells.size ≤ cs.size) (hone : (v.cells.toList.all (·.oneCell')) = true)
    (he : putCells cs o v.cells.toList = cs') (h : Rg X ops (i + 1) k E (S.set j (blk b (.cells cs' u (0, 0)))) Q) : Rg X ops i k E S Q :=
  Rg.quiet ho hc fun a w op ha hw hop => ⟨{ w with heap := w.heap.setIfInBounds b (.cells (putCells cs o v.cells.toList) u (0, 0)) }, _, by
    unfold execOp; rw [hop]
    simp [ha.eval hx, ha.eval hy, Instr.storeAt, Instr.sureAddr, run_storeVar (hw.blk_at j hj) hs hle hone], hw.set j hj _ rfl rfl rfl rfl, he ▸ h⟩
end
end Go.Proofs.Ytfhhggcdmgjbcaa.Sx

namespace Go.Proofs.Ytfhhggcdmgjbcaa.Sx
open Go Go.RowKit

/-! ### Items chosen anew -/
def pick (S : List Item) : List Nat → List Item
  | [] => []
  | j :: js => match S[j]? with
    | some it => it :: pick S js
    | none => pick S js
theorem mem_pick {S : List Item} : ∀ {js : List Nat} {it : Item}, it ∈ pick S js → ∃ j ∈ js, S[j]? = some it := by
  intro js
  induction js with
  | nil => intro it h; simp [pick] at h
  | cons j js ih =>
    intro it h
    simp only [pick] at h
    split at h
    · rename_i it' hj
      rcases List.mem_cons.1 h with rfl | h
      · exact ⟨j, by simp, hj⟩
      · obtain ⟨n, hn, he⟩ := ih h; exact ⟨n, by simp [hn], he⟩
    · obtain ⟨n, hn, he⟩ := ih h; exact ⟨n, by simp [hn], he⟩
theorem apart_of {S : List Item} (h : S.Pairwise fun x y => ∀ k, x.fp k → ¬ y.fp k) {m n : Nat} (hmn : m ≠ n) {x y : Item} (hx : S[m]? = some x) (hy : S[n]? = some y) : ∀ k, x.fp k → ¬ y.fp k := by
  obtain ⟨h1, rfl⟩ := List.getElem?_eq_some_iff.1 hx
  obtain ⟨h2, rfl⟩ := List.getElem?_eq_some_iff.1 hy
  have hp := List.pairwise_iff_getElem.1 h
  rcases Nat.lt_or_gt_of_ne hmn with hlt | hgt
  · exact hp m n h1 h2 hlt
  · exact fun k hk hk' => hp n m h2 h1 hgt k hk' hk
theorem Heap.pick {w0 w : World} {S : List Item} (h : Heap w0 S w) (js : List Nat) (hn : js.Nodup) : Heap w0 (pick S js) w := by
  refine ⟨h.os, h.tape, h.output, fun it hit => ?_, fun it hit => ?_, ?_⟩
  · obtain ⟨j, _, hj⟩ := mem_pick hit; exact h.at_ j hj
  · obtain ⟨j, _, hj⟩ := mem_pick hit; exact h.low it (List.mem_of_getElem? hj)
  · induction js with
    | nil => exact List.Pairwise.nil
    | cons j js ih =>
      have hn' := List.nodup_cons.1 hn
      simp only [Sx.pick]
      split
      · rename_i it hj
        refine List.Pairwise.cons (fun y hy => ?_) (ih hn'.2)
        obtain ⟨n, hnm, he⟩ := mem_pick hy
        exact apart_of h.apart (fun e => hn'.1 (by rw [e]; exact hnm)) hj he
      · exact ih hn'.2

/-- the item at place j is turned: its own blocks, or new ones -/
theorem Heap.setI {w0 w w' : World} {S : List Item} (h : Heap w0 S w) (j : Nat) {it : Item} (hj : S[j]? = some it) (it' : Item) (hos : w'.os = w.os) (ht : w'.tape = w.tape) (ho : w'.output = w.output)
    (hsz : w.heap.size ≤ w'.heap.size) (hfp : ∀ k, it'.fp k → it.fp k ∨ (w.heap.size ≤ k ∧ k < w'.heap.size)) (hok : it'.ok w') (hsame : ∀ k, k < w.heap.size → ¬ it.fp k → w'.heap[k]? = w.heap[k]?) : Heap w0 (S.set j it') w' := by
  have hlt : j < S.length := (List.getElem?_eq_some_iff.1 hj).1
  have hSj : S[j] = it := (List.getElem?_eq_some_iff.1 hj).2
  have hoth : ∀ n, (hn : n < S.length) → n ≠ j → ∀ q, (S[n]).fp q → ¬ it.fp q := fun n hn hne => apart_of h.apart hne (List.getElem?_eq_getElem hn) hj
  refine ⟨hos.trans h.os, ht.trans h.tape, ho.trans h.output, fun x hx => ?_, fun x hx q hq => ?_, ?_⟩
  · obtain ⟨n, hn, rfl⟩ := List.mem_iff_getElem.1 hx
    rw [List.length_set] at hn
    by_cases e : n = j
    · subst e; rw [List.getElem_set_self]; exact hok
    · rw [List.getElem_set_ne (by omega)]
      exact (S[n]).stable w w' (fun q hq => hsame q (h.low _ (List.getElem_mem hn) q hq) (hoth n hn e q hq)) (h.ok _ (List.getElem_mem hn))
  · obtain ⟨n, hn, rfl⟩ := List.mem_iff_getElem.1 hx
    rw [List.length_set] at hn
    by_cases e : n = j
    · subst e
      rw [List.getElem_set_self] at hq
      rcases hfp q hq with h1 | h1
      · have := h.low it (List.mem_of_getElem? hj) q h1; omega
      · exact h1.2
    · rw [List.getElem_set_ne (by omega)] at hq
      have := h.low _ (List.getElem_mem hn) q hq; omega
  · rw [List.pairwise_iff_getElem]
    intro x y hx hy hxy q h5 h6
    have hx' : x < S.length := by rwa [List.length_set] at hx
    have hy' : y < S.length := by rwa [List.length_set] at hy
    by_cases e : x = j
    · subst e
      rw [List.getElem_set_self] at h5
      rw [List.getElem_set_ne (by omega)] at h6
      rcases hfp q h5 with h1 | h1
      · exact hoth y hy' (by omega) q h6 h1
      · have := h.low _ (List.getElem_mem hy') q h6; omega
    · rw [List.getElem_set_ne (by omega)] at h5
      by_cases e' : y = j
      · subst e'
        rw [List.getElem_set_self] at h6
        rcases hfp q h6 with h1 | h1
        · exact hoth x hx' (by omega) q h5 h1
        · have := h.low _ (List.getElem_mem hx') q h5; omega
      · rw [List.getElem_set_ne (by omega)] at h6
        exact List.pairwise_iff_getElem.1 h.apart x y hx' hy' hxy q h5 h6
/-- a new item, of blocks that are new -/
theorem Heap.newI {w0 w w' : World} {S : List Item} (h : Heap w0 S w) (it : Item) (hos : w'.os = w.os) (ht : w'.tape = w.tape) (ho : w'.output = w.output) (hsz : w.heap.size ≤ w'.heap.size)
    (hfp : ∀ k, it.fp k → w.heap.size ≤ k ∧ k < w'.heap.size) (hok : it.ok w') (hsame : ∀ k, k < w.heap.size → w'.heap[k]? = w.heap[k]?) : Heap w0 (it :: S) w' := by
  have h' := h.keep hos ht ho hsz fun x hx k hk => hsame k (h.low x hx k hk)
  refine ⟨h'.os, h'.tape, h'.output, fun x hx => ?_, fun x hx k hk => ?_, List.Pairwise.cons (fun x hx k hk hk' => ?_) h'.apart⟩
  · rcases List.mem_cons.1 hx with rfl | hx
    · exact hok
    · exact h'.ok x hx
  · rcases List.mem_cons.1 hx with rfl | hx
    · exact (hfp k hk).2
    · exact h'.low x hx k hk
  · have := (hfp k hk).1
    have := h.low x hx k hk'
    omega

/-- what lies in the blocks of X reads as in w0 -/
def base (w0 : World) (B : Nat → Prop) : Item := ⟨B, fun w => ∀ k, B k → w.heap[k]? = w0.heap[k]?, fun _ _ h hw k hk => (h k hk).trans (hw k hk)⟩
theorem Heap.start (w : World) : Heap w [base w (· < w.heap.size)] w :=
  ⟨rfl, rfl, rfl, fun it hit => by rw [List.mem_singleton.1 hit]; exact fun _ _ => rfl, fun it hit k hk => by rw [List.mem_singleton.1 hit] at hk; exact hk, List.pairwise_singleton ..⟩
theorem Heap.base_below {w0 w : World} {S : List Item} (h : Heap w0 S w) (j : Nat) (hj : S[j]? = some (base w0 (· < w0.heap.size))) : Below w0.heap.size w0 w :=
  ⟨h.os, h.tape, h.output, by
    rcases Nat.eq_zero_or_pos w0.heap.size with e | e
    · omega
    · have := h.lt j hj (k := w0.heap.size - 1) (show w0.heap.size - 1 < w0.heap.size by omega); omega, h.at_ j hj⟩

/-- what a call comes to that only makes memory of its own -/
def Ret (w : World) (v : Value) (e : Ending) (w' : World) : Prop := e = .returned v ∧ Below w.heap.size w w'

section
variable {X : Cx} {ops : Array Oper} {i k : Nat} {E : Env} {S : List Item} {Q : Exit → Act → World → Prop}

def At (X : Cx) (e : Exit) (E : Env) (S : List Item) (Q : Exit → Act → World → Prop) : Prop := ∀ a w, Knows X.N X.D E a → Heap X.w0 S w → Q e a w

theorem Rg.fin (hk : Nat.ble k i = true) (h : At X .normal E S Q) : Rg X ops i k E S Q := Rg.done h hk

/-- a piece of a region, and what is known behind it -/
def Mid (X : Cx) (E' : Env) (S' : List Item) (Q : Exit → Act → World → Prop) : Exit → Act → World → Prop
  | .normal, a, w => Knows X.N X.D E' a ∧ Heap X.w0 S' w
  | e, a, w => Q e a w
theorem wpOpsIn_append {F : Fence} {n : Nat} {P : Program} {ops : Array Oper} {Q Q' : Exit → Act → World → Prop} (l2 : List Nat) (hQ : ∀ e a w, (∀ h : e = .normal, False) → Q' e a w → Q e a w) (hO : LetsOut Q' → LetsOut Q) : ∀ (l1 : List Nat) (a : Act) (w : World),
    wpOpsIn F n P ops Q' l1 a w → (∀ a w, Q' .normal a w → wpOpsIn F n P ops Q l2 a w) → wpOpsIn F n P ops Q (l1 ++ l2) a w := by
  intro l1
  induction l1 with
  | nil => intro a w h h2; exact h2 a w h
  | cons j l1 ih =>
    intro a w h h2
    simp only [List.cons_append, wpOpsIn] at h ⊢
    cases ho : ops[j]? with
    | none => simp only [ho] at h; exact ih a w h h2
    | some o =>
      simp only [ho] at h ⊢
      by_cases hw : Region.wanted o (yielded ops a.tmps) = true
      · rw [if_pos hw] at h ⊢
        refine ⟨h.1, ?_⟩
        have h3 := h.2
        unfold Oper.uponIn at h3 ⊢
        split at h3
        · exact ih _ _ h3 h2
        · exact ih _ _ h3 h2
        · exact ih _ _ h3 h2
        · refine ⟨h3.1, h3.2.mono ?_⟩
          intro e w' he
          cases e with
          | returned v => exact ih _ _ he h2
          | panicked c => exact hQ _ _ _ (by intro hh; cases hh) he
          | outgrown => exact hO he
        · refine ⟨h3.1, h3.2.mono ?_⟩
          intro v w' he; exact ih _ _ he h2
        · refine ⟨h3.1, h3.2.mono ?_⟩
          intro e w' he
          cases e with
          | returned v => exact ih _ _ he h2
          | panicked c => exact hQ _ _ _ (by intro hh; cases hh) he
          | outgrown => exact hO he
        · exact hQ _ _ _ (by intro hh; cases hh) h3
        · exact h3.elim
      · rw [if_neg hw] at h ⊢
        exact ⟨h.1, ih _ _ h.2 h2⟩
theorem Rg.cut (m : Nat) (E' : Env) (S' : List Item) (hm : (Nat.ble i m && Nat.ble m k) = true) (h1 : Rg X ops i m E S (Mid X E' S' Q)) (h2 : Rg X ops m k E' S' Q) : Rg X ops i k E S Q := by
  intro a w ha hw
  simp only [Bool.and_eq_true, Nat.ble_eq] at hm
  have e : List.range' i (k - i) = List.range' i (m - i) ++ List.range' m (k - m) := by
    have h := List.range'_append (s := i) (m := m - i) (n := k - m) (step := 1)
    rw [show i + 1 * (m - i) = m from by omega, show m - i + (k - m) = k - i from by omega] at h
    exact h.symm
  rw [e]
  refine wpOpsIn_append (Q' := Mid X E' S' Q) _ ?_ ?_ _ a w (h1 a w ha hw) ?_
  · intro e a w hne hq
    cases e <;> first | exact (hne rfl).elim | exact hq
  · rintro ⟨a, w, h⟩; exact ⟨a, w, h⟩
  · rintro a w ⟨ha, hw⟩; exact h2 a w ha hw
theorem At.mid {E' : Env} {S' : List Item} (js : List Nat) (hs : Sub E' E) (hj : pick S js = S') (hn : js.Nodup) : At X .normal E S (Mid X E' S' Q) :=
  fun _ _ ha hw => ⟨ha.sub hs, hj ▸ hw.pick js hn⟩

/-! ### Code -/
theorem Ev.seq {x y : Code} (h : Ev X x E S (Exit.then (y.wpIn (fence X.r) 0 X.P Q) Q)) : Ev X (.seq x y) E S Q := fun a w ha hw => wpIn_seq (h a w ha hw)
theorem Ev.region {id : Nat} {ops : Array Oper} (h : Rg X ops 0 ops.size E S Q) : Ev X (.region id ops false) E S Q :=
  fun a w ha hw => wpIn_region (by rw [List.range_eq_range']; exact h a w ha hw)
theorem Ev.block {id : Nat} {c : Code} (h : Ev X c E S (Exit.inBlock id Q)) : Ev X (.block id c) E S Q := fun a w ha hw => wpIn_block (h a w ha hw)
theorem Ev.skip (h : At X .normal E S Q) : Ev X .skip E S Q := fun a w ha hw => wpIn_skip (h a w ha hw)
theorem Ev.exit {id : Nat} (h : At X (.exit id) E S Q) : Ev X (.exit id) E S Q := fun a w ha hw => wpIn_exit (h a w ha hw)
theorem Ev.ret (h : At X .ret E S Q) : Ev X .ret E S Q := fun a w ha hw => wpIn_ret (h a w ha hw)
theorem Ev.cond {c : Operand} {x y : Code} {b : Bool} (hc : E.op c = some (.bool b)) (ht : b = true → Ev X x E S Q) (hf : b = false → Ev X y E S Q) : Ev X (.cond c x y) E S Q :=
  fun a w ha hw => wpIn_cond_split (ha.eval hc) (fun e => ht e a w ha hw) (fun e => hf e a w ha hw)
theorem At.code {e : Exit} {c : Code} {E' : Env} {Q' : Exit → Act → World → Prop} (js : List Nat) (hs : Sub E' E) (hn : js.Nodup) (hQ : ∀ a w, c.wpIn (fence X.r) 0 X.P Q' a w → Q e a w) (h : Ev X c E' (pick S js) Q') : At X e E S Q :=
  fun a w ha hw => hQ a w (h a w (ha.sub hs) (hw.pick js hn))
theorem Ev.weak {c : Code} {E' : Env} {S' : List Item} (js : List Nat) (hs : Sub E' E) (hj : pick S js = S') (hn : js.Nodup) (h : Ev X c E' S' Q) : Ev X c E S Q :=
  fun a w ha hw => h a w (ha.sub hs) (hj ▸ hw.pick js hn)

/-- a loop: what is known at its head, by a parameter -/
theorem Ev.loop {T : Type} (I : T → Env) (J : T → List Item) (φ : T → Prop) (μ : T → Nat) (t0 : T) (js : List Nat) {c : Code} (h0 : φ t0) (hE : Sub (I t0) E) (hj : pick S js = J t0) (hn : js.Nodup)
    (round : ∀ t, φ t → Ev X c (I t) (J t) (Exit.then (fun a w => ∃ t', φ t' ∧ μ t' < μ t ∧ Knows X.N X.D (I t') a ∧ Heap X.w0 (J t') w) Q)) : Ev X (.loop c) E S Q := by
  intro a w ha hw
  let st : Act → World → Nat → Prop := fun a w m => ∃ t, φ t ∧ μ t = m ∧ Knows X.N X.D (I t) a ∧ Heap X.w0 (J t) w
  have hwf : ∀ a w, (∃ m, st a w m) → ∃ m, st a w m ∧ ∀ m', st a w m' → m ≤ m' := by
    intro a w ⟨m, hm⟩
    induction m using Nat.strongRecOn with
    | _ m ih =>
      by_cases h : ∃ m', m' < m ∧ st a w m'
      · obtain ⟨m', hlt, hm'⟩ := h; exact ih m' hlt hm'
      · exact ⟨m, hm, fun m' hm' => by
          rcases Nat.lt_or_ge m' m with hlt | hge
          · exact absurd ⟨m', hlt, hm'⟩ h
          · exact hge⟩
  let least : Act → World → Nat := fun a w => open Classical in if h : ∃ m, st a w m then (hwf a w h).choose else 0
  have hleast : ∀ a w m, st a w m → st a w (least a w) ∧ least a w ≤ m := by
    intro a w m hm
    have h : ∃ m, st a w m := ⟨m, hm⟩
    have e : least a w = (hwf a w h).choose := by simp only [least]; rw [dif_pos h]
    rw [e]
    exact ⟨(hwf a w h).choose_spec.1, (hwf a w h).choose_spec.2 m hm⟩
  refine wpIn_loop (fun a w => ∃ m, st a w m) least ⟨μ t0, t0, h0, rfl, ha.sub hE, hj ▸ hw.pick js hn⟩ ?_
  rintro a w ⟨m, hm⟩
  obtain ⟨⟨t, hφ, hμ, ha', hw'⟩, _⟩ := hleast a w m hm
  refine wpIn_mono (round t hφ a w ha' hw') ?_
  intro e a2 w2 hq
  cases e with
  | normal =>
    obtain ⟨t', h1, h2, h3, h4⟩ := hq
    have := hleast a2 w2 (μ t') ⟨t', h1, rfl, h3, h4⟩
    exact ⟨⟨_, this.1⟩, by omega⟩
  | exit id => exact hq
  | goto l => exact hq
  | ret => exact hq
  | panic c => exact hq
  | outgrown => exact hq
theorem At.round {T : Type} {I : T → Env} {J : T → List Item} {φ : T → Prop} {μ : T → Nat} {t : T} {e : Exit} (hQ : ∀ a w, (∃ t', φ t' ∧ μ t' < μ t ∧ Knows X.N X.D (I t') a ∧ Heap X.w0 (J t') w) → Q e a w)
    (t' : T) (js : List Nat) (hφ : φ t') (hμ : μ t' < μ t) (hs : Sub (I t') E) (hj : pick S js = J t') (hn : js.Nodup) : At X e E S Q :=
  fun a w ha hw => hQ a w ⟨t', hφ, hμ, ha.sub hs, hj ▸ hw.pick js hn⟩

/-! ### A function: its beginning and its end -/
def envOf : List Value → Nat → Env
  | [], _ => []
  | v :: vs, n => (n, v) :: envOf vs (n + 1)
theorem envOf_get : ∀ (vs : List Value) (n s : Nat) (v : Value), (envOf vs n).get s = some v → n ≤ s ∧ vs[s - n]? = some v := by
  intro vs
  induction vs with
  | nil => intro n s v h; simp [envOf, Env.get] at h
  | cons u vs ih =>
    intro n s v h
    simp only [envOf, Env.get] at h
    cases hb : Nat.beq s n with
    | true =>
      rw [hb] at h
      have := Nat.eq_of_beq_eq_true hb
      subst this
      simp at h
      exact ⟨Nat.le_refl _, by simp [h]⟩
    | false =>
      rw [hb] at h
      obtain ⟨h1, h2⟩ := ih (n + 1) s v (by simpa using h)
      refine ⟨by omega, ?_⟩
      rw [show s - n = (s - (n + 1)) + 1 from by omega]
      simpa using h2
def bodyOf (P : Program) (f : FuncId) : Code := ((P.funcs[f]?).bind (·.body)).getD .skip
theorem calls_of_ev {P : Program} {f : FuncId} {fn : Func} {args : List Value} {w : World} {R : Ending → World → Prop} {c : Code} (S : List Item) (hf : P.funcs[f]? = some fn) (hb : fn.body = some c) (hn : Nat.ble args.length fn.ntmps = true)
    (hS : Heap w S w) (h : Ev ⟨none, P, fn.ntmps, [], w⟩ c (envOf args 0) S (bodyPost P fn R)) : Calls P f args.toArray w R := by
  refine callsIn_wide (n := 0) |>.1 (callsIn_of_wp hf hb trivial ?_ rfl)
  refine h _ w ⟨?_, rfl, ?_⟩ hS
  · have := Nat.le_of_ble_eq_true hn; simp; omega
  · intro s v hs
    obtain ⟨_, h2⟩ := envOf_get args 0 s v hs
    have hlt : s < args.length := by
      have := (List.getElem?_eq_some_iff.1 h2).1; omega
    simp only [Nat.sub_zero] at h2
    show (args.toArray ++ Array.replicate _ undef)[s]? = some v
    rw [Array.getElem?_append_left (by simpa using hlt)]
    simpa using h2
theorem At.ret1 {fn : Func} {R : Ending → World → Prop} {t : Nat} {v : Value} (hr : fn.results = #[.tmp t]) (hD : X.D = []) (hv : E.get t = some v) (h : ∀ w, Heap X.w0 S w → R (.returned v) w) :
    At X .ret E S (bodyPost X.P fn R) := by
  intro a w ha hw
  refine ⟨by rw [ha.defers, hD], v, ?_, h w hw⟩
  rw [results_tmp hr]
  have := ha.get t v hv
  simp [this]
theorem At.ret2 {fn : Func} {R : Ending → World → Prop} {t u : Nat} {v v' : Value} (hr : fn.results = #[.tmp t, .tmp u]) (hD : X.D = []) (hv : E.get t = some v) (hv' : E.get u = some v') (h : ∀ w, Heap X.w0 S w → R (.returned (.tuple #[v, v'])) w) :
    At X .ret E S (bodyPost X.P fn R) := by
  intro a w ha hw
  refine ⟨by rw [ha.defers, hD], _, ?_, h w hw⟩
  rw [results_tmp2 hr]
  have h1 := ha.get t v hv
  have h2 := ha.get u v' hv'
  simp [h1, h2]

/-! ### Calls -/
def entered (P : Program) (f : FuncId) : Bool := match P.funcs[f]? with
  | some fn => fn.name != "runtime.NumGoroutine" && fn.body.isSome
  | none => false
theorem run_callFunc {P : Program} {f : FuncId} {args : Array Value} {w : World} (h : entered P f = true) : (callFunc f args).run P w = .ok (.enter f args) w := by
  unfold entered at h
  split at h
  · rename_i fn hf
    simp only [Bool.and_eq_true, bne_iff_ne, ne_eq] at h
    cases hb : fn.body with
    | none => rw [hb] at h; simp at h
    | some c => simp [callFunc, hf, h.1, hb]
  · cases h
theorem rg_call_any {T : Type} {d : Option Nat} {f : FuncId} {fo : Operand} {caps : Array Value} {xs : Array Operand} {ts : Array TypeId} {g : Option (Nat × Bool)} {vs : List Value} (ho : opAt ops i = some (d, .call { callee := .value fo, args := xs, argTypes := ts }, g))
    (hc : (true && (d.all fun d => Nat.blt d X.N) && Nat.blt i k && (says ops E g == some true)) = true) (hfo : E.op fo = some (.func (.func f) #[] caps)) (hf : entered X.P f = true) (hx : Env.opsOf E xs.toList = some vs)
    (v : T → Value) (S' : T → List Item) (φ : T → Prop)
    (hcall : ∀ w, Heap X.w0 S w → Calls X.P f (vs.toArray ++ caps) w fun e w' => ∃ t, φ t ∧ e = .returned (v t) ∧ Heap X.w0 (S' t) w')
    (h : ∀ t, φ t → Rg X ops (i + 1) k (putE d (v t) E) (S' t) Q) : Rg X ops i k E S Q := by
  refine Rg.enter (f := f) (args := vs.toArray ++ caps) ho hc ?_ ?_
  · intro a w o ha hop
    have he : (xs.map a.eval) = vs.toArray := by
      have := ha.evals hx
      rw [← Array.toList_inj]; simpa using this
    unfold execOp; rw [hop]
    simp [resolve, ha.eval hfo, Deferred.ofValue, he, invoke, run_callFunc hf]
  · intro w hw
    refine (hcall w hw).mono ?_
    rintro e w' ⟨t, ht, he, hw'⟩
    exact ⟨v t, S' t, he, hw', h t ht⟩
/-- a call that only makes memory of its own -/
theorem rg_call {d : Option Nat} {f : FuncId} {xs : Array Operand} {ts : Array TypeId} {g : Option (Nat × Bool)} {vs : List Value} {v : Value} (ho : opAt ops i = some (d, .call { callee := .value (.func f), args := xs, argTypes := ts }, g))
    (hc : (true && (d.all fun d => Nat.blt d X.N) && Nat.blt i k && (says ops E g == some true)) = true) (hf : entered X.P f = true) (hx : Env.opsOf E xs.toList = some vs)
    (hcall : ∀ w, Heap X.w0 S w → Calls X.P f vs.toArray w (Ret w v)) (h : Rg X ops (i + 1) k (putE d v E) S Q) : Rg X ops i k E S Q :=
  rg_call_any (T := Unit) (caps := #[]) ho hc rfl hf hx (fun _ => v) (fun _ => S) (fun _ => True) (fun w hw => by
    rw [Array.append_empty]
    exact (hcall w hw).mono fun e w' ⟨he, hb⟩ => ⟨(), trivial, he, hw.below hb⟩) (fun _ _ => h)
end
end Go.Proofs.Ytfhhggcdmgjbcaa.Sx

namespace Go.Proofs.Ytfhhggcdmgjbcaa.Sx
open Go Go.RowKit

/-! ### Code by its place in a function's body -/
def fbody (f : Func) : Code := match f.body with | some c => c | none => .skip
def cl : Code → Code
  | .seq a _ => a
  | .cond _ a _ => a
  | .block _ a => a
  | .loop a => a
  | .scope a => a
  | .rangeFunc _ _ a _ => a
  | c => c
def cr : Code → Code
  | .seq _ b => b
  | .cond _ _ b => b
  | .rangeFunc _ _ _ b => b
  | c => c
def cops : Code → Array Oper
  | .region _ ops _ => ops
  | _ => #[]
inductive Shape where
  | seq
  | region (draws : Bool) (n : Nat)
  | cond (c : Nat)
  | block (id : Nat)
  | loop
  | skip
  | ret
  | exit (id : Nat)
  | other
def shapeOf : Code → Shape
  | .seq _ _ => .seq
  | .region _ ops d => .region d ops.size
  | .cond (.tmp t) _ _ => .cond t
  | .block id _ => .block id
  | .loop _ => .loop
  | .skip => .skip
  | .ret => .ret
  | .exit id => .exit id
  | _ => .other

section
variable {X : Cx} {c : Code} {E : Env} {S : List Item} {Q : Exit → Act → World → Prop}
theorem ev_seq (hs : shapeOf c = .seq) (h : Ev X (cl c) E S (Exit.then ((cr c).wpIn (fence X.r) 0 X.P Q) Q)) : Ev X c E S Q := by
  cases c <;> first | (exact Ev.seq h) | (unfold shapeOf at hs; cases hs) | (rename_i x _ _; cases x <;> cases hs)
theorem ev_region {n : Nat} (hs : shapeOf c = .region false n) (h : Rg X (cops c) 0 n E S Q) : Ev X c E S Q := by
  cases c with
  | region id ops d =>
    simp only [shapeOf, Shape.region.injEq] at hs
    obtain ⟨rfl, rfl⟩ := hs
    exact Ev.region h
  | cond x _ _ => cases x <;> cases hs
  | _ => cases hs
theorem ev_cond {t : Nat} {b : Bool} (hs : shapeOf c = .cond t) (hc : E.get t = some (.bool b)) (ht : b = true → Ev X (cl c) E S Q) (hf : b = false → Ev X (cr c) E S Q) : Ev X c E S Q := by
  cases c with
  | cond x a b' =>
    cases x with
    | tmp u =>
      simp only [shapeOf, Shape.cond.injEq] at hs
      subst hs
      exact Ev.cond hc ht hf
    | _ => cases hs
  | _ => cases hs
theorem ev_cond_t {t : Nat} (hs : shapeOf c = .cond t) (hc : E.get t = some (.bool true)) (ht : Ev X (cl c) E S Q) : Ev X c E S Q := ev_cond hs hc (fun _ => ht) (fun e => by cases e)
theorem ev_cond_f {t : Nat} (hs : shapeOf c = .cond t) (hc : E.get t = some (.bool false)) (hf : Ev X (cr c) E S Q) : Ev X c E S Q := ev_cond hs hc (fun e => by cases e) (fun _ => hf)
theorem ev_block {id : Nat} (hs : shapeOf c = .block id) (h : Ev X (cl c) E S (Exit.inBlock id Q)) : Ev X c E S Q := by
  cases c with
  | block i a =>
    simp only [shapeOf, Shape.block.injEq] at hs
    subst hs
    exact Ev.block h
  | cond x _ _ => cases x <;> cases hs
  | _ => cases hs
theorem ev_skip (hs : shapeOf c = .skip) (h : At X .normal E S Q) : Ev X c E S Q := by
  cases c with
  | skip => exact Ev.skip h
  | cond x _ _ => cases x <;> cases hs
  | _ => cases hs
theorem ev_ret (hs : shapeOf c = .ret) (h : At X .ret E S Q) : Ev X c E S Q := by
  cases c with
  | ret => exact Ev.ret h
  | cond x _ _ => cases x <;> cases hs
  | _ => cases hs
theorem ev_exit {id : Nat} (hs : shapeOf c = .exit id) (h : At X (.exit id) E S Q) : Ev X c E S Q := by
  cases c with
  | exit i =>
    simp only [shapeOf, Shape.exit.injEq] at hs
    subst hs
    exact Ev.exit h
  | cond x _ _ => cases x <;> cases hs
  | _ => cases hs
theorem ev_loop {T : Type} (I : T → Env) (J : T → List Item) (φ : T → Prop) (μ : T → Nat) (t0 : T) (js : List Nat) (hs : shapeOf c = .loop) (h0 : φ t0) (hE : Sub (I t0) E) (hj : pick S js = J t0) (hn : js.Nodup)
    (round : ∀ t, φ t → Ev X (cl c) (I t) (J t) (Exit.then (fun a w => ∃ t', φ t' ∧ μ t' < μ t ∧ Knows X.N X.D (I t') a ∧ Heap X.w0 (J t') w) Q)) : Ev X c E S Q := by
  cases c with
  | loop a => exact Ev.loop I J φ μ t0 js h0 hE hj hn round
  | cond x _ _ => cases x <;> cases hs
  | _ => cases hs
/-- on with the code that stands next -/
theorem at_code {e : Exit} {Q' : Exit → Act → World → Prop} (js : List Nat) (E' : Env) (hs : Sub E' E) (hn : js.Nodup) (hQ : ∀ a w, c.wpIn (fence X.r) 0 X.P Q' a w → Q e a w) (h : Ev X c E' (pick S js) Q') : At X e E S Q :=
  At.code js hs hn hQ h
theorem calls_of {P : Program} {f : FuncId} {fn : Func} {args : List Value} {w : World} {R : Ending → World → Prop} (S : List Item) (hf : P.funcs[f]? = some fn) (hb : fn.body.isSome = true) (hn : Nat.ble args.length fn.ntmps = true)
    (hS : Heap w S w) (h : Ev ⟨none, P, fn.ntmps, [], w⟩ (fbody fn) (envOf args 0) S (bodyPost P fn R)) : Calls P f args.toArray w R := by
  refine calls_of_ev S hf ?_ hn hS h
  unfold fbody
  cases hb' : fn.body with
  | none => rw [hb'] at hb; cases hb
  | some c => rfl
end
end Go.Proofs.Ytfhhggcdmgjbcaa.Sx

namespace Go.Proofs.Ytfhhggcdmgjbcaa.Sx
open Go Go.RowKit

structure V8 where
  a0 : Int
  a1 : Int
  a2 : Int
  a3 : Int
  a4 : Int
  a5 : Int
  a6 : Int
  a7 : Int
  deriving DecidableEq
def V8.zero : V8 := ⟨0, 0, 0, 0, 0, 0, 0, 0⟩

structure Entry where
  name : ByteArray
  node : Int
  cookie : Int
  deriving DecidableEq

/-- where a node's bytes and its entries lie -/
structure Loc where
  dA : Option Addr
  dCap : Nat
  lA : Option Addr
  lCap : Nat
def Loc.zero : Loc := ⟨none, 0, none, 0⟩

/-- a node -/
structure Node where
  kind : Int
  gen : Int
  mode : Int
  user : Int
  group : Int
  links : Int
  rs : Int
  rn : Int
  ws : Int
  wn : Int
  ts : Int
  tn : Int
  data : List Int
  verf : V8
  target : ByteArray
  list : List Entry
  parent : Int
  next : Int
  deriving DecidableEq

def Node.zero : Node := ⟨0, 0, 0, 0, 0, 0, 0, 0, 0, 0, 0, 0, [], V8.zero, ByteArray.empty, [], 0, 0⟩

def Entry.zero : Entry := ⟨ByteArray.empty, 0, 0⟩

def Node.cells (n : Node) (a : Loc) : Array Value :=
  #[.int .u32 n.kind, .int .u32 n.gen, .int .u32 n.mode, .int .u32 n.user, .int .u32 n.group, .int .i64 n.links,
    .int .u32 n.rs, .int .u32 n.rn, .int .u32 n.ws, .int .u32 n.wn, .int .u32 n.ts, .int .u32 n.tn,
    .slice a.dA n.data.length a.dCap,
    .int .u8 n.verf.a0, .int .u8 n.verf.a1, .int .u8 n.verf.a2, .int .u8 n.verf.a3, .int .u8 n.verf.a4, .int .u8 n.verf.a5, .int .u8 n.verf.a6, .int .u8 n.verf.a7,
    .string n.target, .slice a.lA n.list.length a.lCap, .int .i64 n.parent, .int .u64 n.next]

def nd (ns : List Node) (i : Nat) : Node := ns.getD i Node.zero
def lc (as : List Loc) (i : Nat) : Loc := as.getD i Loc.zero
def en (es : List Entry) (i : Nat) : Entry := es.getD i Entry.zero

/-- a row of elements of one make: sz cells each, at p; all in blocks of F -/
structure RowsAt (F : Nat → Prop) (w : World) (sz : Nat) (p : Option Addr) (len : Nat) (cell : Nat → Nat → Option Value) : Prop where
  adr : 0 < len → ∃ b o, p = some ⟨b, o, none⟩
  foot : ∀ b o, 0 < len → p = some ⟨b, o, none⟩ → F b
  cell : ∀ b o, p = some ⟨b, o, none⟩ → ∀ i, i < len → ∀ j, j < sz → w.cell? ⟨b, o + i * sz + j, none⟩ = cell i j

theorem RowsAt.keep {F F' : Nat → Prop} {w w' : World} {sz : Nat} {p : Option Addr} {len : Nat} {cell : Nat → Nat → Option Value} (h : RowsAt F w sz p len cell) (hk : ∀ k, F k → w'.heap[k]? = w.heap[k]?) (hF : ∀ k, F k → F' k) : RowsAt F' w' sz p len cell :=
  ⟨h.adr, fun b o hl hp => hF b (h.foot b o hl hp), fun b o hp i hi j hj => by
    rw [← h.cell b o hp i hi j hj]
    exact World.cell?_of_block (hk b (h.foot b o (by omega) hp))⟩

def BytesAt (F : Nat → Prop) (w : World) (p : Option Addr) (xs : List Int) : Prop := RowsAt F w 1 p xs.length fun i _ => some (.int .u8 (xs.getD i 0))
def EntriesAt (F : Nat → Prop) (w : World) (p : Option Addr) (es : List Entry) : Prop :=
  RowsAt F w 3 p es.length fun i j => (#[.string (en es i).name, .int .i64 (en es i).node, .int .u64 (en es i).cookie] : Array Value)[j]?
structure NodeAt (F : Nat → Prop) (w : World) (n : Node) (a : Loc) : Prop where
  data : BytesAt F w a.dA n.data
  list : EntriesAt F w a.lA n.list
  dcap : n.data.length ≤ a.dCap
  lcap : n.list.length ≤ a.lCap
structure NodesAt (F : Nat → Prop) (w : World) (p : Option Addr) (ns : List Node) (as : List Loc) : Prop where
  rows : RowsAt F w 25 p ns.length fun i j => ((nd ns i).cells (lc as i))[j]?
  node : ∀ i, i < ns.length → NodeAt F w (nd ns i) (lc as i)
  len : as.length = ns.length

section
variable {F F' : Nat → Prop} {w w' : World}
theorem BytesAt.keep {p xs} (h : BytesAt F w p xs) (hk : ∀ k, F k → w'.heap[k]? = w.heap[k]?) (hF : ∀ k, F k → F' k) : BytesAt F' w' p xs := RowsAt.keep h hk hF
theorem EntriesAt.keep {p es} (h : EntriesAt F w p es) (hk : ∀ k, F k → w'.heap[k]? = w.heap[k]?) (hF : ∀ k, F k → F' k) : EntriesAt F' w' p es := RowsAt.keep h hk hF
theorem NodeAt.keep {n a} (h : NodeAt F w n a) (hk : ∀ k, F k → w'.heap[k]? = w.heap[k]?) (hF : ∀ k, F k → F' k) : NodeAt F' w' n a := ⟨h.data.keep hk hF, h.list.keep hk hF, h.dcap, h.lcap⟩
theorem NodesAt.keep {p ns as} (h : NodesAt F w p ns as) (hk : ∀ k, F k → w'.heap[k]? = w.heap[k]?) (hF : ∀ k, F k → F' k) : NodesAt F' w' p ns as :=
  ⟨h.rows.keep hk hF, fun i hi => (h.node i hi).keep hk hF, h.len⟩
end

/-- in the memory that there is -/
abbrev Low (w : World) : Nat → Prop := (· < w.heap.size)
end Go.Proofs.Ytfhhggcdmgjbcaa.Sx

namespace Go.Proofs.Ytfhhggcdmgjbcaa.Sx
open Go Go.RowKit
theorem not_t {a : Bool} (h : (!a) = true) : a = false := by cases a <;> first | rfl | cases h
theorem not_f {a : Bool} (h : (!a) = false) : a = true := by cases a <;> first | rfl | cases h
theorem and_t {a b : Bool} (h : (a && b) = true) : a = true ∧ b = true := by cases a <;> cases b <;> first | exact ⟨rfl, rfl⟩ | cases h
theorem or_f {a b : Bool} (h : (a || b) = false) : a = false ∧ b = false := by cases a <;> cases b <;> first | exact ⟨rfl, rfl⟩ | cases h
section
variable {E : Env} {s : Nat} {g h : Bool}
theorem and_of_t (hg : g = true) (hs : E.get s = some (.bool h)) : E.get s = some (.bool (g && h)) := by rw [hg, Bool.true_and]; exact hs
theorem and_of_f (hg : g = false) (hs : E.get s = some (.bool false)) : E.get s = some (.bool (g && h)) := by rw [hg, Bool.false_and]; exact hs
theorem or_of_t (hg : g = true) (hs : E.get s = some (.bool true)) : E.get s = some (.bool (g || h)) := by rw [hg, Bool.true_or]; exact hs
theorem or_of_f (hg : g = false) (hs : E.get s = some (.bool h)) : E.get s = some (.bool (g || h)) := by rw [hg, Bool.false_or]; exact hs
end
theorem in_u32 {m : Int} (h1 : 0 ≤ m) (h2 : m ≤ 4294967295) : inKind .u32 m := IntWalk.u32_in _ ⟨h1, h2⟩
theorem in_u64 {m : Int} (h1 : 0 ≤ m) (h2 : m ≤ 18446744073709551615) : inKind .u64 m := IntWalk.u64_in _ ⟨h1, h2⟩
theorem agg_rfl {cs vs : Array Value} {o : Nat} (h : cs.extract o (o + vs.size) = vs) : ∀ n, n < vs.size → cs[o + n]? = vs[n]? := by
  intro n hn
  have h1 : (cs.extract o (o + vs.size))[n]? = vs[n]? := by rw [h]
  rw [← h1, Array.getElem?_extract]
  have hs : (cs.extract o (o + vs.size)).size = vs.size := by rw [h]
  simp only [Array.size_extract] at hs
  rw [if_pos (by omega)]

section
variable {X : Cx} {ops : Array Oper} {i k : Nat} {E : Env} {S : List Item} {Q : Exit → Act → World → Prop}
/-- a part of a known block that is all of it -/
theorem pv_load_blk_whole {t u : TypeId} {x : Operand} {b : Nat} {cs : Array Value} {fr : Nat × Nat} (j : Nat) (hx : E.op x = some (.pointer (some ⟨b, 0, none⟩)))
    (hj : S[j]? = some (blk b (.cells cs u fr))) (ht : isAggT X.P t = true) (hs : szT X.P t = some cs.size) : PV X E S (.load t x) (.agg cs) :=
  pv_load_blk_agg j hx hj ht hs fun n _ => by rw [Nat.zero_add]
theorem Knows.over {N D E a} (h : Knows N D E a) {s : Nat} {v : Value} (hs : E.get s = some v) : Knows N D ((s, v) :: E) a :=
  ⟨h.size, h.defers, fun t u ht => by
    simp only [Env.get] at ht
    cases hb : Nat.beq t s with
    | true => rw [hb] at ht; simp only [cond_true, Option.some.injEq] at ht; rw [Nat.eq_of_beq_eq_true hb, ← ht]; exact h.get s v hs
    | false => rw [hb] at ht; exact h.get t u (by simpa using ht)⟩
theorem Rg.know (s : Nat) {b c : Bool} (hs : E.get s = some (.bool b)) (hb : b = c) (h : Rg X ops i k ((s, .bool c) :: E) S Q) : Rg X ops i k E S Q :=
  fun a w ha hw => h a w (ha.over (hb ▸ hs)) hw
/-- '&&', '||': both answers of the guard lead to one state -/
theorem Rg.split (m : Nat) (E' : Env) (S' : List Item) {s : Nat} {g : Bool} (hs : E.get s = some (.bool g)) (hm : (Nat.ble i m && Nat.ble m k) = true)
    (ht : g = true → Rg X ops i m ((s, .bool true) :: E) S (Mid X E' S' Q)) (hf : g = false → Rg X ops i m ((s, .bool false) :: E) S (Mid X E' S' Q)) (h2 : Rg X ops m k E' S' Q) : Rg X ops i k E S Q := by
  refine Rg.cut m E' S' hm ?_ h2
  cases hg : g with
  | true => exact fun a w ha hw => ht hg a w (ha.over (by rw [← hg]; exact hs)) hw
  | false => exact fun a w ha hw => hf hg a w (ha.over (by rw [← hg]; exact hs)) hw

def skipsOk (ops : Array Oper) (N : Nat) : Nat → Nat → Env → Bool
  | 0, _, _ => true
  | n + 1, i, E => match opAt ops i with
    | some (some d, _, g) => (says ops E g == some false) && Nat.blt d N && skipsOk ops N n (i + 1) ((d, undef) :: E)
    | some (none, _, g) => (says ops E g == some false) && skipsOk ops N n (i + 1) E
    | none => false
/-- what is known but for what these operations write -/
def freeOf (ops : Array Oper) (E : Env) : Nat → Nat → Bool
  | 0, _ => true
  | n + 1, i => (match opAt ops i with
    | some (some d, _, _) => (E.get d).isNone
    | _ => true) && freeOf ops E n (i + 1)
theorem skips_run {Q : Exit → Act → World → Prop} {E0 : Env} : ∀ (n i : Nat) (E : Env), skipsOk ops X.N n i E = true → freeOf ops E0 n i = true → Sub E0 E → i + n ≤ k →
    Rg X ops (i + n) k E0 S Q → Rg X ops i k E S Q := by
  intro n
  induction n with
  | zero => intro i E _ _ hsub _ h a w ha hw; exact h a w (ha.sub hsub) hw
  | succ n ih =>
    intro i E hok hfree hsub hle h
    intro a w ha hw
    have hik : Nat.blt i k = true := by simp only [Nat.blt_eq]; omega
    rw [range_step hik]
    unfold skipsOk at hok
    unfold freeOf at hfree
    have hnext : Rg X ops (i + 1 + n) k E0 S Q := by rw [show i + 1 + n = i + (n + 1) from by omega]; exact h
    cases hoi : ops[i]? with
    | none => simp only [opAt, hoi, Option.map_none] at hok; cases hok
    | some o =>
      simp only [wpOpsIn, hoi]
      simp only [Bool.and_eq_true] at hfree
      have hop : opAt ops i = some (o.dst, o.op, o.guard) := by simp [opAt, hoi, core]
      rw [hop] at hok hfree
      cases hd : o.dst with
      | some d =>
        rw [hd] at hok hfree
        simp only [Bool.and_eq_true, beq_iff_eq, Nat.blt_eq] at hok
        obtain ⟨⟨hs, hdN⟩, hrest⟩ := hok
        have hw' := says_wanted (X := X) ha hs
        rw [if_neg (by rw [hw']; simp)]
        refine ⟨fun _ _ => trivial, ?_⟩
        refine ih (i + 1) ((d, undef) :: E) hrest hfree.2 ?_ (by omega) hnext _ _ (ha.put hdN undef) hw
        intro s v hv
        have hne : Nat.beq s d = false := by
          rw [Bool.eq_false_iff]; intro e
          have := Nat.eq_of_beq_eq_true e
          subst this
          have hz := hfree.1
          simp only [hv, Option.isNone_some] at hz
          cases hz
        simp only [Env.get, hne, cond_false]
        exact hsub s v hv
      | none =>
        rw [hd] at hok hfree
        simp only [Bool.and_eq_true, beq_iff_eq] at hok
        have hw' := says_wanted (X := X) ha hok.1
        rw [if_neg (by rw [hw']; simp)]
        exact ⟨fun _ _ => trivial, ih (i + 1) E hok.2 hfree.2 hsub (by omega) hnext _ _ ha hw⟩
/-- these operations are passed over: their guards say no -/
theorem Rg.skips (m : Nat) (hc : (Nat.ble i m && Nat.ble m k && skipsOk ops X.N (m - i) i E && freeOf ops E (m - i) i) = true) (h : Rg X ops m k E S Q) : Rg X ops i k E S Q := by
  simp only [Bool.and_eq_true, Nat.ble_eq] at hc
  obtain ⟨⟨⟨h1, h2⟩, h3⟩, h4⟩ := hc
  refine skips_run (m - i) i E h3 h4 (fun _ _ h => h) (by omega) ?_
  rw [show i + (m - i) = m from by omega]; exact h
end
end Go.Proofs.Ytfhhggcdmgjbcaa.Sx
namespace Go.Proofs.Ytfhhggcdmgjbcaa.Sx
open Go Go.RowKit
section
variable {X : Cx} {E : Env} {S : List Item}
theorem pv_indexAddr' {t e : TypeId} {x y : Operand} {p : Option Addr} {b o len cap sz : Nat} {q : IntKind} {n : Int} (hx : E.op x = some (.slice p len cap)) (hp : p = some ⟨b, o, none⟩) (hy : E.op y = some (.int q n))
    (he : elemT X.P t = some (e, sz)) (h0 : 0 ≤ n) (h1 : n < len) : PV X E S (.indexAddr t x y) (.pointer (some ⟨b, o + n.toNat * sz, none⟩)) :=
  pv_indexAddr (by rw [hx, hp]) hy he h0 h1
end
end Go.Proofs.Ytfhhggcdmgjbcaa.Sx

namespace Go.Proofs.Ytfhhggcdmgjbcaa.Sx
open Go Go.RowKit

theorem rows_in {r : Option Nat} {n : Nat} {P : Program} {row : String} {args : Array Value} {w : World} {R : Value → World → Prop} (h : Rows P row args w R) : RowsIn (fence r) n P row args w R := by
  intro c cs _
  obtain ⟨v, w', hr, hs⟩ := h c cs
  exact ⟨v, w', hr, (stepsIn_wide (P := P)).2 hs⟩
theorem calls_in {r : Option Nat} {n : Nat} {P : Program} {f : FuncId} {args : Array Value} {w : World} {R : Ending → World → Prop} (h : Calls P f args w R) : CallsIn (fence r) n P f args w R :=
  (callsIn_wide (n := n)).2 h

def calmAll (ops : Array Oper) : Bool := ops.all fun o => calm o.op

theorem wpOpsIn_of_wpOps {r : Option Nat} {P : Program} {ops : Array Oper} {Q Q' : Exit → Act → World → Prop} (hc : calmAll ops = true) (hO : ¬ LetsOut Q') (hQ : ∀ e a w, Q' e a w → Q e a w) : ∀ (l : List Nat) (a : Act) (w : World),
    wpOps P ops Q' l a w → wpOpsIn (fence r) 0 P ops Q l a w := by
  intro l
  induction l with
  | nil => intro a w h; exact hQ _ _ _ h
  | cons i l ih =>
    intro a w h
    simp only [wpOps, wpOpsIn] at h ⊢
    cases ho : ops[i]? with
    | none => simp only [ho] at h; exact ih a w h
    | some o =>
      simp only [ho] at h ⊢
      have hco : calm o.op = true := by
        unfold calmAll at hc
        rw [Array.all_eq_true] at hc
        obtain ⟨hi, he⟩ := Array.getElem?_eq_some_iff.1 ho
        have := hc i hi
        rw [he] at this; exact this
      by_cases hw : Region.wanted o (yielded ops a.tmps) = true
      · rw [if_pos hw] at h ⊢
        refine ⟨fun _ _ => trivial, ?_⟩
        rw [semAt_calm hco]
        rcases h with h | ⟨_, h⟩
        · unfold Oper.wp Oper.upon at h
          unfold Oper.uponIn
          split at h <;> rename_i heq
          · rw [heq]; exact ih _ _ h
          · rw [heq]; exact ih _ _ h
          · rw [heq]; exact ih _ _ h
          · rw [heq]
            refine ⟨fun h => by simp [fence, Fence.wide] at h, calls_in (h.mono ?_)⟩
            intro e w' he
            cases e with
            | returned v => exact ih _ _ he
            | panicked c => exact hQ _ _ _ he
            | outgrown => exact (hO he).elim
          · rw [heq]
            exact ⟨fun h => by simp [fence, Fence.wide] at h, rows_in (h.mono fun v w' he => ih _ _ he)⟩
          · rw [heq]; exact hQ _ _ _ h
          · exact h.elim
        · exact (hO h).elim
      · rw [if_neg hw] at h ⊢
        exact ⟨fun _ _ => trivial, ih _ _ h⟩

/-- a piece of a region of quiet operations -/
def Qg (X : Cx) (ops : Array Oper) (i k : Nat) (E : Env) (S : List Item) (Q : Act → Prop) : Prop :=
  ∀ a, Knows X.N X.D E a → wpQuiet X.P ops (Heap X.w0 S) Q ((ops.toList.drop i).take (k - i)) a

section
variable {X : Cx} {ops : Array Oper} {i k : Nat} {E : Env} {S : List Item} {Q : Act → Prop}

theorem drop_step {o : Oper} (h : ops[i]? = some o) (hik : i < k) : (ops.toList.drop i).take (k - i) = o :: (ops.toList.drop (i + 1)).take (k - (i + 1)) := by
  have hl : ops.toList[i]? = some o := by simpa using h
  obtain ⟨hi, he⟩ := List.getElem?_eq_some_iff.1 hl
  rw [List.drop_eq_getElem_cons hi, he]
  obtain ⟨m, hm⟩ : ∃ m, k - i = m + 1 := ⟨k - i - 1, by omega⟩
  rw [hm, List.take_succ_cons, show k - (i + 1) = m from by omega]

theorem Qg.fin (hk : Nat.ble k i = true) (h : ∀ a, Knows X.N X.D E a → Q a) : Qg X ops i k E S Q := by
  intro a ha
  have h' : k ≤ i := by simpa using hk
  rw [show k - i = 0 from by omega]
  exact h a ha

theorem Qg.pure {d : Nat} {op : Op} {g : Option (Nat × Bool)} {v : Value} (ho : opAt ops i = some (some d, op, g))
    (hc : (calm op && Nat.blt d X.N && Nat.blt i k && (says ops E g == some true)) = true)
    (hv : PV X E S op v) (h : Qg X ops (i + 1) k ((d, v) :: E) S Q) : Qg X ops i k E S Q := by
  intro a ha
  simp only [Bool.and_eq_true, beq_iff_eq, Nat.blt_eq] at hc
  obtain ⟨⟨⟨hc1, hd⟩, hik⟩, hs⟩ := hc
  simp only [opAt] at ho
  cases hoi : ops[i]? with
  | none => rw [hoi] at ho; simp at ho
  | some o =>
    rw [hoi] at ho
    simp only [Option.map_some, core, Option.some.injEq, Prod.mk.injEq] at ho
    obtain ⟨h1, h2, h3⟩ := ho
    rw [drop_step hoi hik]
    simp only [wpQuiet]
    rw [if_pos (says_wanted ha (by rw [h3]; exact hs))]
    refine ⟨v, fun w hw => ?_, ?_⟩
    · unfold Oper.quietAt
      rw [hv a w o ha hw h2]
      exact ⟨rfl, rfl⟩
    · rw [h1]; exact h _ (ha.put hd v)

theorem qg_call {d : Option Nat} {f : FuncId} {xs : Array Operand} {ts : Array TypeId} {g : Option (Nat × Bool)} {vs : List Value} {v : Value} (ho : opAt ops i = some (d, .call { callee := .value (.func f), args := xs, argTypes := ts }, g))
    (hc : (true && (d.all fun d => Nat.blt d X.N) && Nat.blt i k && (says ops E g == some true)) = true) (hf : entered X.P f = true) (hx : Env.opsOf E xs.toList = some vs)
    (hcall : ∀ w, Heap X.w0 S w → Calls X.P f vs.toArray w (Ret w v)) (h : Qg X ops (i + 1) k (putE d v E) S Q) : Qg X ops i k E S Q := by
  intro a ha
  simp only [Bool.and_eq_true, beq_iff_eq, Nat.blt_eq] at hc
  obtain ⟨⟨⟨_, hd⟩, hik⟩, hs⟩ := hc
  simp only [opAt] at ho
  cases hoi : ops[i]? with
  | none => rw [hoi] at ho; simp at ho
  | some o =>
    rw [hoi] at ho
    simp only [Option.map_some, core, Option.some.injEq, Prod.mk.injEq] at ho
    obtain ⟨h1, h2, h3⟩ := ho
    rw [drop_step hoi hik]
    simp only [wpQuiet]
    rw [if_pos (says_wanted ha (by rw [h3]; exact hs))]
    refine ⟨v, fun w hw => ?_, ?_⟩
    · have he : (xs.map a.eval) = vs.toArray := by
        have := ha.evals hx
        rw [← Array.toList_inj]; simpa using this
      have hrun : (execOp a.eval o).run X.P w = .ok (.enter f vs.toArray) w := by
        unfold execOp; rw [h2]
        simp [resolve, Act.eval, Deferred.ofValue, invoke, run_callFunc hf]
        exact he
      unfold Oper.quietAt
      rw [hrun]
      exact ⟨rfl, (hcall w hw).mono fun e w' ⟨he, hb⟩ => ⟨he, hw.below hb⟩⟩
    · rw [h1]
      cases d with
      | none => exact h _ ha
      | some d => exact h _ (ha.put (by simpa using hd) v)

theorem Qg.know (s : Nat) {b c : Bool} (hs : E.get s = some (.bool b)) (hb : b = c) (h : Qg X ops i k ((s, .bool c) :: E) S Q) : Qg X ops i k E S Q :=
  fun a ha => h a (ha.over (hb ▸ hs))

theorem wpQuiet_append {P : Program} {C : World → Prop} (l2 : List Oper) : ∀ (l1 : List Oper) (a : Act), wpQuiet P ops C (wpQuiet P ops C Q l2) l1 a → wpQuiet P ops C Q (l1 ++ l2) a := by
  intro l1
  induction l1 with
  | nil => intro a h; exact h
  | cons o l1 ih =>
    intro a h
    simp only [List.cons_append, wpQuiet] at h ⊢
    split
    · rename_i hw
      rw [if_pos hw] at h
      exact Oper.quiet_mono (fun a => ih a) h
    · rename_i hw
      rw [if_neg hw] at h
      exact ih _ h
theorem wpQuiet_mono {P : Program} {C : World → Prop} {Q Q' : Act → Prop} (hq : ∀ a, Q a → Q' a) : ∀ (l : List Oper) (a : Act), wpQuiet P ops C Q l a → wpQuiet P ops C Q' l a := by
  intro l
  induction l with
  | nil => intro a h; exact hq a h
  | cons o l ih =>
    intro a h
    simp only [wpQuiet] at h ⊢
    split
    · rename_i hw
      rw [if_pos hw] at h
      exact Oper.quiet_mono (fun a => ih a) h
    · rename_i hw
      rw [if_neg hw] at h
      exact ih _ h
theorem Qg.split (m : Nat) (E' : Env) (_S' : List Item) {s : Nat} {g : Bool} (hs : E.get s = some (.bool g)) (hm : (Nat.ble i m && Nat.ble m k) = true)
    (ht : g = true → Qg X ops i m ((s, .bool true) :: E) S (Knows X.N X.D E')) (hf : g = false → Qg X ops i m ((s, .bool false) :: E) S (Knows X.N X.D E')) (h2 : Qg X ops m k E' S Q) : Qg X ops i k E S Q := by
  intro a ha
  simp only [Bool.and_eq_true, Nat.ble_eq] at hm
  have e : (ops.toList.drop i).take (k - i) = (ops.toList.drop i).take (m - i) ++ (ops.toList.drop m).take (k - m) := by
    rw [show k - i = (m - i) + (k - m) from by omega, List.take_add, List.drop_drop, show i + (m - i) = m from by omega]
  rw [e]
  have hg : wpQuiet X.P ops (Heap X.w0 S) (Knows X.N X.D E') ((ops.toList.drop i).take (m - i)) a := by
    cases hg : g with
    | true => exact ht hg a (ha.over (by rw [← hg]; exact hs))
    | false => exact hf hg a (ha.over (by rw [← hg]; exact hs))
  exact wpQuiet_append _ _ a (wpQuiet_mono (fun a ha => h2 a ha) _ a hg)
theorem Qg.mid {E' : Env} (hs : Sub E' E) (hk : Nat.ble k i = true) : Qg X ops i k E S (Knows X.N X.D E') := Qg.fin hk fun _ ha => ha.sub hs

theorem qskips_run {E0 : Env} : ∀ (n i : Nat) (E : Env), skipsOk ops X.N n i E = true → freeOf ops E0 n i = true → Sub E0 E → i + n ≤ k →
    Qg X ops (i + n) k E0 S Q → Qg X ops i k E S Q := by
  intro n
  induction n with
  | zero => intro i E _ _ hsub _ h a ha; exact h a (ha.sub hsub)
  | succ n ih =>
    intro i E hok hfree hsub hle h a ha
    unfold skipsOk at hok
    unfold freeOf at hfree
    have hnext : Qg X ops (i + 1 + n) k E0 S Q := by rw [show i + 1 + n = i + (n + 1) from by omega]; exact h
    cases hoi : ops[i]? with
    | none => simp only [opAt, hoi, Option.map_none] at hok; cases hok
    | some o =>
      rw [drop_step hoi (by omega)]
      simp only [wpQuiet]
      simp only [Bool.and_eq_true] at hfree
      have hop : opAt ops i = some (o.dst, o.op, o.guard) := by simp [opAt, hoi, core]
      rw [hop] at hok hfree
      cases hd : o.dst with
      | some d =>
        rw [hd] at hok hfree
        simp only [Bool.and_eq_true, beq_iff_eq, Nat.blt_eq] at hok
        obtain ⟨⟨hs, hdN⟩, hrest⟩ := hok
        have hw' := says_wanted (X := X) ha hs
        rw [if_neg (by rw [hw']; simp)]
        refine ih (i + 1) ((d, undef) :: E) hrest hfree.2 ?_ (by omega) hnext _ (ha.put hdN undef)
        intro s v hv
        have hne : Nat.beq s d = false := by
          rw [Bool.eq_false_iff]; intro e
          have := Nat.eq_of_beq_eq_true e
          subst this
          have hz := hfree.1
          simp only [hv, Option.isNone_some] at hz
          cases hz
        simp only [Env.get, hne, cond_false]
        exact hsub s v hv
      | none =>
        rw [hd] at hok hfree
        simp only [Bool.and_eq_true, beq_iff_eq] at hok
        have hw' := says_wanted (X := X) ha hok.1
        rw [if_neg (by rw [hw']; simp)]
        exact ih (i + 1) E hok.2 hfree.2 hsub (by omega) hnext _ ha
theorem Qg.skips (m : Nat) (hc : (Nat.ble i m && Nat.ble m k && skipsOk ops X.N (m - i) i E && freeOf ops E (m - i) i) = true) (h : Qg X ops m k E S Q) : Qg X ops i k E S Q := by
  simp only [Bool.and_eq_true, Nat.ble_eq] at hc
  obtain ⟨⟨⟨h1, h2⟩, h3⟩, h4⟩ := hc
  refine qskips_run (m - i) i E h3 h4 (fun _ _ h => h) (by omega) ?_
  rw [show i + (m - i) = m from by omega]; exact h
end

/-- a region that draws its order, its operations quiet: one walk serves every order -/
theorem ev_quiet {X : Cx} {c : Code} {E E' : Env} {S : List Item} {Q : Exit → Act → World → Prop} {n : Nat} (hs : shapeOf c = .region true n)
    (hB : (X.P.follows .mixedOrders && Region.lexB .any (cops c) && calmAll (cops c)) = true) (h : Qg X (cops c) 0 n E S (Knows X.N X.D E')) (h2 : At X .normal E' S Q) : Ev X c E S Q := by
  cases c with
  | region id ops d =>
    simp only [shapeOf, Shape.region.injEq] at hs
    obtain ⟨rfl, rfl⟩ := hs
    simp only [cops, Bool.and_eq_true] at hB h
    obtain ⟨⟨hm, hB⟩, hcalm⟩ := hB
    simp only [Region.lexB, Bool.and_eq_true] at hB
    intro a w ha hw
    refine wpIn_region_draw fun t => ?_
    let Q' : Exit → Act → World → Prop := fun e a w => e = .normal ∧ Knows X.N X.D E' a ∧ Heap X.w0 S w
    refine wpOpsIn_of_wpOps (Q' := Q') hcalm (by rintro ⟨a, w, h, _⟩; cases h) (by rintro e a w ⟨rfl, h3, h4⟩; exact h2 a w h3 h4) _ _ _ ?_
    simp only [Region.schedule, hm, Bool.true_or, if_true]
    refine wpAny_sound ops.size t _ a _ ?_
    have hC : Heap X.w0 S { w with drawn := w.drawn + 1 } := ⟨hw.os, hw.tape, hw.output, fun it hit => it.stable w _ (fun _ _ => rfl) (hw.ok it hit), hw.low, hw.apart⟩
    refine wpAny_of_quiet (C := Heap X.w0 S) (Q := Knows X.N X.D E') (fun a w hw ha => ⟨rfl, ha, hw⟩) _ _ _ _ hC ?_
    have hq := h a ha
    simp only [Nat.sub_zero, List.drop_zero] at hq
    rw [List.take_of_length_le (by simp)] at hq
    have := wpAnyQ_lex (C := Heap X.w0 S) (md := .any) hB.1 ops.toList 0 (Array.replicate ops.size false) a (by simp) (by simpa using hB.2) hq
    simpa using this
  | cond x _ _ => cases x <;> cases hs
  | _ => cases hs
end Go.Proofs.Ytfhhggcdmgjbcaa.Sx
namespace Go.Proofs.Ytfhhggcdmgjbcaa.Sx
open Go Go.RowKit
section
variable {X : Cx} {ops : Array Oper} {i k : Nat} {E : Env} {S : List Item}
/-- a test that is open: each answer is walked on its own -/
theorem Rg.fork {Q : Exit → Act → World → Prop} (s : Nat) {g : Bool} (hs : E.get s = some (.bool g)) (ht : g = true → Rg X ops i k ((s, .bool true) :: E) S Q) (hf : g = false → Rg X ops i k ((s, .bool false) :: E) S Q) : Rg X ops i k E S Q := by
  cases hg : g with
  | true => exact fun a w ha hw => ht hg a w (ha.over (by rw [← hg]; exact hs)) hw
  | false => exact fun a w ha hw => hf hg a w (ha.over (by rw [← hg]; exact hs)) hw
theorem Qg.fork {Q : Act → Prop} (s : Nat) {g : Bool} (hs : E.get s = some (.bool g)) (ht : g = true → Qg X ops i k ((s, .bool true) :: E) S Q) (hf : g = false → Qg X ops i k ((s, .bool false) :: E) S Q) : Qg X ops i k E S Q := by
  cases hg : g with
  | true => exact fun a ha => ht hg a (ha.over (by rw [← hg]; exact hs))
  | false => exact fun a ha => hf hg a (ha.over (by rw [← hg]; exact hs))
end
end Go.Proofs.Ytfhhggcdmgjbcaa.Sx

namespace Go.Proofs.Ytfhhggcdmgjbcaa.Sx
open Go Go.RowKit

/-! ### A map of the call's own: keys of one plain kind, int elements -/
structure KeyKind where
  K : Type
  [dec : DecidableEq K]
  enc : K → Value
  d : TypeDesc
  same : ∀ a b, Instr.sameNow d (enc a) (enc b) = some (decide (a = b))
  bits : ∀ a, Instr.sameBits 10000 (enc a) (enc a) = true
  plain : ∀ (P : Program) (w : World) (t : TypeId) (b : Bool) (a : K), P.underlying t = some d → (Instr.checkKey b 10000 t (enc a)).run P w = .ok () w
attribute [instance] KeyKind.dec

def look {K : Type} [DecidableEq K] : List (K × Int) → K → Option Int
  | [], _ => none
  | (a, v) :: l, k => if k = a then some v else look l k
def upd {K : Type} [DecidableEq K] : List (K × Int) → K → Int → List (K × Int)
  | [], k, v => [(k, v)]
  | (a, u) :: l, k, v => if k = a then (a, v) :: l else (a, u) :: upd l k v
theorem look_upd {K : Type} [DecidableEq K] (l : List (K × Int)) (k : K) (v : Int) (k' : K) : look (upd l k v) k' = if k' = k then some v else look l k' := by
  induction l with
  | nil => simp [upd, look]
  | cons x l ih =>
    obtain ⟨a, u⟩ := x
    simp only [upd]
    by_cases h : k = a
    · subst h
      simp only [if_true, look]
      by_cases h' : k' = k <;> simp [h']
    · simp only [h, if_false, look, ih]
      by_cases h' : k' = a
      · subst h'; simp [Ne.symm h]
      · simp [h']

def mapItem (κ : KeyKind) (r : Nat) (l : List (κ.K × Int)) : Item :=
  ⟨(· = r), fun w => ∃ es clock, w.heap[r]? = some (.map es clock) ∧ es.toList.map (fun e => (e.key, e.val)) = l.map fun x => (κ.enc x.1, Value.int .i64 x.2),
   fun _ _ h ⟨es, clock, h1, h2⟩ => ⟨es, clock, (h r rfl).trans h1, h2⟩⟩

theorem findNow_look (κ : KeyKind) (k : κ.K) : ∀ (es : List MapEntry) (l : List (κ.K × Int)) (i : Nat), es.map (fun e => (e.key, e.val)) = l.map (fun x => (κ.enc x.1, Value.int .i64 x.2)) →
    (look l k = none → Instr.findNow κ.d (κ.enc k) es i = some none) ∧ (∀ v, look l k = some v → ∃ j, Instr.findNow κ.d (κ.enc k) es i = some (some (i + j, .int .i64 v)) ∧ ∃ e, es[j]? = some e ∧ e.key = κ.enc k ∧
      ∀ v' : Int, ((es.modify j fun e => { e with key := κ.enc k, val := .int .i64 v' }).map fun e => (e.key, e.val)) = (upd l k v').map (fun x => (κ.enc x.1, Value.int .i64 x.2))) := by
  intro es
  induction es with
  | nil =>
    intro l i h
    cases l with
    | nil => exact ⟨fun _ => rfl, fun v hv => by simp [look] at hv⟩
    | cons x l => simp at h
  | cons e es ih =>
    intro l i h
    cases l with
    | nil => simp at h
    | cons x l =>
      obtain ⟨a, u⟩ := x
      simp only [List.map_cons, List.cons.injEq, Prod.mk.injEq] at h
      obtain ⟨⟨hk, hv⟩, hl⟩ := h
      obtain ⟨ih1, ih2⟩ := ih l (i + 1) hl
      have hs : Instr.sameNow κ.d (κ.enc k) e.key = some (decide (k = a)) := by rw [hk]; exact κ.same k a
      by_cases e1 : k = a
      · subst e1
        refine ⟨fun hn => by simp [look] at hn, fun v hv' => ⟨0, ?_, e, rfl, hk, fun v' => ?_⟩⟩
        · simp only [look, if_true, Option.some.injEq] at hv'
          subst hv'
          unfold Instr.findNow
          rw [hs]
          simp [hv]
        · simp only [List.modify_zero_cons, List.map_cons, upd, if_true, hl]
      · simp only [look, e1, if_false]
        refine ⟨fun hn => ?_, fun v hv' => ?_⟩
        · unfold Instr.findNow
          rw [hs]
          simp only [e1, decide_false]
          exact ih1 hn
        · obtain ⟨j, h1, e', h2, h3, h4⟩ := ih2 v hv'
          refine ⟨j + 1, ?_, e', by simpa using h2, h3, fun v' => ?_⟩
          · unfold Instr.findNow
            rw [hs]
            simp only [e1, decide_false]
            rw [h1]; simp only [Option.some.injEq, Prod.mk.injEq, and_true]; omega
          · simp only [List.modify_succ_cons, List.map_cons, upd, e1, if_false, h4 v', hk, hv]

theorem upd_new {K : Type} [DecidableEq K] : ∀ (l : List (K × Int)) (k : K) (v : Int), look l k = none → upd l k v = l ++ [(k, v)] := by
  intro l
  induction l with
  | nil => intro k v _; rfl
  | cons x l ih =>
    intro k v h
    obtain ⟨a, u⟩ := x
    simp only [look] at h
    split at h
    · cases h
    · rename_i hne
      simp only [upd, hne, if_false, ih k v h, List.cons_append]

section
variable {X : Cx} {ops : Array Oper} {i k : Nat} {E : Env} {S : List Item} {Q : Exit → Act → World → Prop}
def mapT (P : Program) (t : TypeId) : Option (TypeId × TypeId) := match P.underlying t with | some (.map a b) => some (a, b) | _ => none
theorem mapT_spec {P : Program} {t a b : TypeId} (h : mapT P t = some (a, b)) : P.underlying t = some (.map a b) := by
  unfold mapT at h
  split at h
  · rename_i h'; simp only [Option.some.injEq, Prod.mk.injEq] at h; obtain ⟨rfl, rfl⟩ := h; exact h'
  · cases h

theorem rg_makeMap {d : Nat} {t : TypeId} {g : Option (Nat × Bool)} (κ : KeyKind) (ho : opAt ops i = some (some d, .makeMap t none, g))
    (hc : (calm (.makeMap t none) && Nat.blt d X.N && Nat.blt i k && (says ops E g == some true)) = true)
    (h : ∀ r, Rg X ops (i + 1) k ((d, .map (some r)) :: E) (mapItem κ r [] :: S) Q) : Rg X ops i k E S Q :=
  Rg.value ho hc fun _ w o _ hw hop => ⟨.map (some w.heap.size), { w with heap := w.heap.push (.map #[] 0) }, mapItem κ w.heap.size [] :: S, by unfold execOp; rw [hop]; simp [Instr.makeMap],
    hw.newI _ rfl rfl rfl (by simp) (fun q hq => by have : q = w.heap.size := hq; subst this; simp) ⟨#[], 0, by simp, rfl⟩ (fun q hq => by rw [Array.getElem?_push, if_neg (by omega)]), h _⟩

theorem pv_lookup {t kt et : TypeId} {x y : Operand} (κ : KeyKind) {r : Nat} {l : List (κ.K × Int)} {a : κ.K} (j : Nat) (hx : E.op x = some (.map (some r))) (hy : E.op y = some (κ.enc a))
    (ht : mapT X.P t = some (kt, et)) (hk : X.P.underlying kt = some κ.d) (hz : zeroT X.P et = some (.int .i64 0)) (hj : S[j]? = some (mapItem κ r l)) :
    PV X E S (.lookup t x y false) (.int .i64 ((look l a).getD 0)) := by
  intro ac w o ha hw ho
  obtain ⟨es, clock, h1, h2⟩ := hw.at_ j hj
  unfold execOp; rw [ho]
  simp only [ha.eval hx, ha.eval hy]
  unfold Instr.lookup
  obtain ⟨f1, f2⟩ := findNow_look κ a es.toList l 0 h2
  have hg : (getObj r).run X.P w = .ok (.map es clock) w := by simp [getObj, Sem.run, h1]
  have hck := κ.plain X.P w kt es.isEmpty a hk
  simp only [Sem.run_bind, Sem.run_pure, run_underlying (mapT_spec ht), Result.andThen_ok, hg, hck, Instr.findKey, run_underlying hk]
  cases hl : look l a with
  | none =>
    rw [f1 hl]
    simp [run_zero hz]
  | some v =>
    obtain ⟨jj, h3, _⟩ := f2 v hl
    rw [h3]
    simp

theorem rg_mapUpdate {t kt et : TypeId} {x y z : Operand} {g : Option (Nat × Bool)} (κ : KeyKind) {r : Nat} {l : List (κ.K × Int)} {a : κ.K} {v : Int} (j : Nat) (ho : opAt ops i = some (none, .mapUpdate t x y z, g))
    (hc : (calm (.mapUpdate t x y z) && Nat.blt i k && (says ops E g == some true)) = true) (hx : E.op x = some (.map (some r))) (hy : E.op y = some (κ.enc a)) (hzv : E.op z = some (.int .i64 v))
    (ht : mapT X.P t = some (kt, et)) (hk : X.P.underlying kt = some κ.d) (hj : S[j]? = some (mapItem κ r l))
    (h : Rg X ops (i + 1) k E (S.set j (mapItem κ r (upd l a v))) Q) : Rg X ops i k E S Q := by
  refine Rg.quiet ho hc fun ac w o ha hw hop => ?_
  obtain ⟨es, clock, h1, h2⟩ := hw.at_ j hj
  obtain ⟨f1, f2⟩ := findNow_look κ a es.toList l 0 h2
  have hg : (getObj r).run X.P w = .ok (.map es clock) w := by simp [getObj, Sem.run, h1]
  have hck := κ.plain X.P w kt false a hk
  have hset : ∀ o', (setObj r o').run X.P w = .ok () { w with heap := w.heap.setIfInBounds r o' } := fun o' => by simp [setObj, Sem.run, h1]
  have hitem : ∀ (es' : Array MapEntry) (clock' : Nat), es'.toList.map (fun e => (e.key, e.val)) = (upd l a v).map (fun x => (κ.enc x.1, Value.int .i64 x.2)) →
      Heap X.w0 (S.set j (mapItem κ r (upd l a v))) { w with heap := w.heap.setIfInBounds r (.map es' clock') } := by
    intro es' clock' he
    have hlow : r < w.heap.size := (Array.getElem?_eq_some_iff.1 h1).1
    refine hw.setI j hj _ rfl rfl rfl (by simp) (fun q hq => .inl hq) ⟨es', clock', by simp [hlow], he⟩ (fun q _ hq => ?_)
    have hne : r ≠ q := fun e => hq e.symm
    exact Array.getElem?_setIfInBounds_ne hne
  cases hl : look l a with
  | none =>
    refine ⟨_, _, ?_, hitem (es.push { key := κ.enc a, val := .int .i64 v, born := clock }) (clock + 1) ?_, h⟩
    · unfold execOp; rw [hop]
      simp only [ha.eval hx, ha.eval hy, ha.eval hzv]
      unfold Instr.mapUpdate
      simp only [Sem.run_bind, run_underlying (mapT_spec ht), Result.andThen_ok, hg, hck, Instr.findKey, run_underlying hk, f1 hl, Sem.run_pure, hset]
    · rw [upd_new l a v hl]
      simp [h2]
  | some u =>
    obtain ⟨jj, h3, e', h4, h5, h6⟩ := f2 u hl
    refine ⟨_, _, ?_, hitem (es.modify jj fun e => { e with key := κ.enc a, val := .int .i64 v }) clock ?_, h⟩
    · unfold execOp; rw [hop]
      simp only [ha.eval hx, ha.eval hy, ha.eval hzv]
      unfold Instr.mapUpdate
      have h4' : es[jj]? = some e' := by simpa using h4
      simp only [Sem.run_bind, run_underlying (mapT_spec ht), Result.andThen_ok, hg, hck, Instr.findKey, run_underlying hk, h3, Sem.run_pure, Nat.zero_add, h4', Option.map_some, Option.getD_some, h5, Instr.keyThatStays, κ.bits, if_true, hset]
    · rw [Array.toList_modify]; exact h6 v
end

theorem ba_beq (a b : ByteArray) : (a == b) = true ↔ a = b := by
  cases a; cases b
  rename_i a b
  show ByteArray.beq ⟨a⟩ ⟨b⟩ = true ↔ _
  unfold ByteArray.beq
  simp
/-- keys that are strings -/
def strKey : KeyKind where
  K := ByteArray
  enc := .string
  d := .string
  same a b := by simp only [Instr.sameNow]; congr 1; rw [Bool.eq_iff_iff]; simp [ba_beq]
  bits a := by simp [Instr.sameBits, ba_beq]
  plain P w t b a h := by unfold Instr.checkKey; simp [run_underlying h]
/-- keys that are numbers of a kind -/
def intKey (q : IntKind) : KeyKind where
  K := Int
  enc n := .int q n
  d := .int q
  same a b := by simp only [Instr.sameNow, if_true]; congr 1
  bits a := by simp [Instr.sameBits]
  plain P w t b a h := by unfold Instr.checkKey; simp [run_underlying h]
end Go.Proofs.Ytfhhggcdmgjbcaa.Sx

namespace Go.Proofs.Ytfhhggcdmgjbcaa.Sx
open Go Go.RowKit

/-! ### A slice of the call's own: nil, or a block from its begin on -/
def own (T : TypeId) (sz : Nat) (p : Option Addr) (n c : Nat) (xs : List Value) : Item :=
  ⟨fun k => p = some ⟨k, 0, none⟩,
   fun w => (p = none ∧ n = 0 ∧ c = 0 ∧ xs = []) ∨ ∃ b rest, p = some ⟨b, 0, none⟩ ∧ w.heap[b]? = some (.cells (xs ++ rest).toArray T (0, 0)) ∧ xs.length = n * sz ∧ (xs ++ rest).length = c * sz,
   fun _ _ h hw => by
    rcases hw with hw | ⟨b, rest, h1, h2, h3, h4⟩
    · exact .inl hw
    · exact .inr ⟨b, rest, h1, (h b h1).trans h2, h3, h4⟩⟩

theorem putCells_get : ∀ (vs : List Value) (cs : Array Value) (o j : Nat), (putCells cs o vs)[j]? = if o ≤ j ∧ j < o + vs.length ∧ j < cs.size then vs[j - o]? else cs[j]? := by
  intro vs
  induction vs with
  | nil => intro cs o j; simp [putCells]; intro h1 h2; omega
  | cons v vs ih =>
    intro cs o j
    simp only [putCells, ih, Array.size_setIfInBounds, List.length_cons]
    by_cases h1 : o + 1 ≤ j ∧ j < o + 1 + vs.length ∧ j < cs.size
    · rw [if_pos h1, if_pos (by omega)]
      rw [show j - o = (j - (o + 1)) + 1 from by omega]; simp
    · rw [if_neg h1]
      by_cases h2 : o ≤ j ∧ j < o + (vs.length + 1) ∧ j < cs.size
      · rw [if_pos h2]
        have e : j = o := by omega
        subst e
        simp [h2.2.2]
      · rw [if_neg h2]
        by_cases e : j = o
        · subst e
          have : ¬ j < cs.size := by omega
          rw [Array.getElem?_eq_none (by simp; omega), Array.getElem?_eq_none (by omega)]
        · rw [Array.getElem?_setIfInBounds_ne (Ne.symm e)]

theorem putCells_mid (xs ys rest : List Value) (h : ys.length ≤ rest.length) : putCells (xs ++ rest).toArray xs.length ys = (xs ++ ys ++ rest.drop ys.length).toArray := by
  apply Array.ext_getElem?
  intro j
  rw [putCells_get]
  simp only [List.size_toArray, List.getElem?_toArray, List.length_append]
  by_cases h1 : xs.length ≤ j ∧ j < xs.length + ys.length ∧ j < xs.length + rest.length
  · rw [if_pos h1, List.append_assoc, List.getElem?_append_right (by omega), List.getElem?_append_left (by omega)]
  · rw [if_neg h1]
    by_cases h2 : j < xs.length
    · rw [List.getElem?_append_left h2, List.append_assoc, List.getElem?_append_left h2]
    · rw [List.getElem?_append_right (by omega), List.append_assoc, List.getElem?_append_right (by omega), List.getElem?_append_right (by omega), List.getElem?_drop]
      congr 1; omega

def bytesT (P : Program) (t : TypeId) : Nat := ((P.info? t).map (·.bytes)).getD 0

theorem nextcap_le (need old : Nat) (h : old < need) : Builtin.nextslicecap need old ≤ 2 * need + 192 := by
  have hg : ∀ (r c : Nat), c ≤ 2 * need + 192 → Builtin.growBy need r c ≤ 2 * need + 192 := by
    intro r
    induction r with
    | zero => intro c hc; exact hc
    | succ r ih =>
      intro c hc
      unfold Builtin.growBy
      split
      · exact hc
      · exact ih _ (by omega)
  unfold Builtin.nextslicecap
  split
  · omega
  · split
    · omega
    · exact hg _ _ (by omega)

theorem zeroCells_length (zero : Array Value) (n : Nat) : (Builtin.zeroCells zero n).size = n * zero.size := by simp [Builtin.zeroCells]

section
variable {X : Cx} {ops : Array Oper} {i k : Nat} {E : Env} {S : List Item} {Q : Exit → Act → World → Prop}

theorem typeInfo_run {P : Program} {t : TypeId} {i : TypeInfo} (h : P.info? t = some i) (w : World) : (typeInfo t).run P w = .ok i w := by simp [typeInfo, h]

/-- append onto a slice of the call's own -/
theorem rg_append {d : Nat} {t e : TypeId} {sz : Nat} {x y : Operand} {ty : TypeId} {g : Option (Nat × Bool)} {p : Option Addr} {n c m : Nat} {xs ys : List Value} {v : Value} {zv : Value} (j : Nat)
    (ho : opAt ops i = some (some d, .call { callee := .builtin .append, args := #[x, y], argTypes := #[t, ty] }, g))
    (hc : (true && Nat.blt d X.N && Nat.blt i k && (says ops E g == some true)) = true) (hx : E.op x = some (.slice p n c)) (hy : E.op y = some v)
    (he : elemT X.P t = some (e, sz)) (hsz : Nat.blt 0 sz = true) (hz : zeroT X.P e = some zv) (hzs : zv.cells.size = sz) (hty : (isSliceT X.P ty || isStringT X.P ty) = true) (hj : S[j]? = some (own e sz p n c xs))
    (hl : Builtin.lenOf v = pure m) (hlen : ys.length = m * sz) (hone : (ys.all (·.oneCell')) = true)
    (hr : ∀ w, Heap X.w0 S w → (Builtin.firstCells sz m v).run X.P w = .ok ys.toArray w) (hb : (2 * (n + m) + 192) * bytesT X.P e ≤ 281474976710656) (hbz : Nat.blt 0 (bytesT X.P e) = true)
    (h : ∀ p' c', n + m ≤ c' → (n + m = 0 → xs ++ ys = []) → Rg X ops (i + 1) k ((d, .slice p' (n + m) c') :: E) (S.set j (own e sz p' (n + m) c' (xs ++ ys))) Q) : Rg X ops i k E S Q := by
  refine Rg.value ho hc fun ac w o ha hw hop => ?_
  have hsz' : 0 < sz := by simpa using hsz
  unfold elemT at he
  split at he
  · rename_i e' hu
    cases hs : szT X.P e' with
    | none => rw [hs] at he; cases he
    | some q =>
      rw [hs] at he
      simp only [Option.map_some, Option.some.injEq, Prod.mk.injEq] at he
      obtain ⟨rfl, rfl⟩ := he
      have hti : ∃ inf, X.P.info? e' = some inf ∧ inf.bytes = bytesT X.P e' := by
        unfold szT at hs
        cases hi : X.P.info? e' with
        | none => rw [hi] at hs; cases hs
        | some inf => exact ⟨inf, rfl, by simp [bytesT, hi]⟩
      obtain ⟨inf, hinf, hbytes⟩ := hti
      have hnz : (∃ e2, X.P.underlying ty = some (.slice e2)) ∨ X.P.underlying ty = some .string := by
        unfold isSliceT isStringT at hty
        cases hd : X.P.underlying ty with
        | none => rw [hd] at hty; simp at hty
        | some dd => rw [hd] at hty; cases dd <;> first | exact .inl ⟨_, rfl⟩ | exact .inr rfl | simp at hty
      have hrun0 : ∀ r, (Builtin.append_ #[t, ty] o.type #[.slice p n c, v]).run X.P w = r → (execOp ac.eval o).run X.P w = r.andThen fun v w => .ok (.value v) w := by
        intro r hr
        unfold execOp; rw [hop]
        simp [resolve, invoke, builtin, ha.eval hx, ha.eval hy, hr]
      have hw1 := hw.at_ j hj
      have hxl : xs.length = n * q := by
        rcases hw1 with ⟨_, h2, _, h4⟩ | ⟨_, _, _, _, h5, _⟩
        · rw [h2, h4]; simp
        · exact h5
      have hemp : n + m = 0 → xs ++ ys = [] := by
        intro h0
        have e1 : n = 0 := by omega
        have e2 : m = 0 := by omega
        subst e1 e2
        simp at hxl hlen
        simp [hxl, hlen]
      by_cases hcap : n + m ≤ c
      · -- there is room
        rcases hw1 with ⟨rfl, rfl, rfl, rfl⟩ | ⟨b, rest, rfl, h2, h3, h4⟩
        · have hm0 : m = 0 := by omega
          subst hm0
          have hys : ys = [] := by simpa using hlen
          subst hys
          refine ⟨.slice none 0 0, w, S, ?_, hw, ?_⟩
          · rw [hrun0 (.ok (.slice none 0 0) w)]
            · rfl
            · unfold Builtin.append_
              rcases hnz with ⟨e2, hdd⟩ | hdd <;> simp [run_underlying hu, run_szOf hs, run_underlying hdd, hl, hr w hw]
          · have := h none 0 (Nat.le_refl _) (fun _ => rfl)
            simp only [List.append_nil] at this
            have hset : S.set j (own e' q none 0 0 []) = S := by
              have hlt := (List.getElem?_eq_some_iff.1 hj).1
              have hge := (List.getElem?_eq_some_iff.1 hj).2
              rw [← hge]; simp
            rw [hset] at this
            exact this
        · simp only [List.length_append] at h4
          have hrl : ys.length ≤ rest.length := by
            have : (n + m) * q ≤ c * q := Nat.mul_le_mul_right q hcap
            rw [Nat.add_mul] at this
            omega
          have hstore := run_storeCells (P := X.P) (t := e') ys w b (n * q) 0 (xs ++ rest).toArray h2 (by simp; omega) hone
          simp only [Nat.add_zero] at hstore
          have hpc : putCells (xs ++ rest).toArray (n * q) ys = (xs ++ ys ++ rest.drop ys.length).toArray := by rw [← h3]; exact putCells_mid xs ys rest hrl
          rw [hpc] at hstore
          refine ⟨.slice (some ⟨b, 0, none⟩) (n + m) c, { w with heap := w.heap.setIfInBounds b (.cells (xs ++ ys ++ rest.drop ys.length).toArray e' (0, 0)) }, _, ?_, ?_, h (some ⟨b, 0, none⟩) c hcap hemp⟩
          · rw [hrun0 (.ok (.slice (some ⟨b, 0, none⟩) (n + m) c) { w with heap := w.heap.setIfInBounds b (.cells (xs ++ ys ++ rest.drop ys.length).toArray e' (0, 0)) })]
            · rfl
            · unfold Builtin.append_
              have hadd : (⟨b, 0, none⟩ : Addr).add (n * q) = ⟨b, n * q, none⟩ := by rw [add_mk, Nat.zero_add]
              rcases hnz with ⟨e2, hdd⟩ | hdd <;> simp [run_underlying hu, run_szOf hs, run_underlying hdd, hl, hr w hw, hcap, hadd, hstore]
          · refine hw.setI j hj _ rfl rfl rfl (by simp) (fun q' hq => .inl hq) (.inr ⟨b, rest.drop ys.length, rfl, by simp [(Array.getElem?_eq_some_iff.1 h2).1], ?_, ?_⟩) (fun q' _ hq => ?_)
            · simp only [List.length_append, hlen, h3, Nat.add_mul]
            · simp only [List.length_append, List.length_drop]; omega
            · refine Array.getElem?_setIfInBounds_ne (fun e => hq ?_)
              subst e; rfl
      · -- a new block
        have hneed : c < n + m := by omega
        have hn64 : ¬ (((n + m : Nat) : Int) > IntKind.i64.max) := by
          have hbz' : 0 < bytesT X.P e' := by simpa using hbz
          have : 2 * (n + m) + 192 ≤ (2 * (n + m) + 192) * bytesT X.P e' := Nat.le_mul_of_pos_right _ hbz'
          simp only [IntKind.max]
          simp [IntKind.bits, IntKind.signed]
          omega
        have hlim : ¬ (Builtin.nextslicecap (n + m) c * inf.bytes > 2 ^ 48) := by
          have h1 := nextcap_le (n + m) c hneed
          have : Builtin.nextslicecap (n + m) c * inf.bytes ≤ (2 * (n + m) + 192) * inf.bytes := Nat.mul_le_mul_right _ h1
          rw [hbytes] at this ⊢
          omega
        have hold : (Builtin.firstCells q n (.slice p n c)).run X.P w = .ok xs.toArray w := by
          rcases hw1 with ⟨rfl, rfl, rfl, rfl⟩ | ⟨b, rest, rfl, h2, h3, h4⟩
          · simp [Builtin.firstCells]
          · simp only [Builtin.firstCells]
            have hl' := run_loadCells_list (P := X.P) w ⟨b, 0, none⟩ xs (fun jj vv hv => by
              rw [add_mk, Nat.zero_add, cell_blk h2]
              have := (List.getElem?_eq_some_iff.1 hv).1
              simp only [List.getElem?_toArray]
              rw [List.getElem?_append_left this]; exact hv)
            rw [h3] at hl'
            exact hl'
        obtain ⟨cap', hcq⟩ : ∃ cap', cap' = Question.cut (.appendCap (n + m) c e') (w.tape w.drawn (.appendCap (n + m) c e')) := ⟨_, rfl⟩
        have hcle : n + m ≤ cap' := by
          rw [hcq]; simp only [Question.cut]; omega
        let rest : List Value := (Builtin.zeroCells zv.cells (cap' - (n + m))).toList
        have hrestl : rest.length = (cap' - (n + m)) * q := by
          show (Builtin.zeroCells zv.cells (cap' - (n + m))).toList.length = _
          rw [Array.length_toList, zeroCells_length, hzs]
        refine ⟨.slice (some ⟨w.heap.size, 0, none⟩) (n + m) cap', { w with heap := w.heap.push (.cells (xs ++ ys ++ rest).toArray e' (0, 0)), drawn := w.drawn + 1 }, _, ?_, ?_, h (some ⟨w.heap.size, 0, none⟩) cap' hcle hemp⟩
        · rw [hrun0 (.ok (.slice (some ⟨w.heap.size, 0, none⟩) (n + m) cap') { w with heap := w.heap.push (.cells (xs ++ ys ++ rest).toArray e' (0, 0)), drawn := w.drawn + 1 })]
          · rfl
          · unfold Builtin.append_
            have hwd : Heap X.w0 S { w with drawn := w.drawn + 1 } := ⟨hw.os, hw.tape, hw.output, fun it hit => it.stable w _ (fun _ _ => rfl) (hw.ok it hit), hw.low, hw.apart⟩
            have hold' : (Builtin.firstCells q n (.slice p n c)).run X.P { w with drawn := w.drawn + 1 } = .ok xs.toArray { w with drawn := w.drawn + 1 } := by
              have hw1' := hwd.at_ j hj
              rcases hw1' with ⟨rfl, rfl, rfl, rfl⟩ | ⟨b, rest, rfl, h2, h3, h4⟩
              · simp [Builtin.firstCells]
              · simp only [Builtin.firstCells]
                have hl' := run_loadCells_list (P := X.P) { w with drawn := w.drawn + 1 } ⟨b, 0, none⟩ xs (fun jj vv hv => by
                  rw [add_mk, Nat.zero_add, cell_blk h2]
                  have := (List.getElem?_eq_some_iff.1 hv).1
                  simp only [List.getElem?_toArray]
                  rw [List.getElem?_append_left this]; exact hv)
                rw [h3] at hl'
                exact hl'
            have hch : (choose (.appendCap (n + m) c e')).run X.P w = .ok cap' { w with drawn := w.drawn + 1 } := by
              rw [run_choose, hcq]; simp [Question.forced]
            have hnf : ¬ (n + m ≤ c) := hcap
            rcases hnz with ⟨e2, hdd⟩ | hdd
            all_goals simp only [Sem.run_bind, Sem.run_pure, Result.andThen_ok, run_underlying hu, run_szOf hs, run_underlying hdd, List.getElem?_toArray, List.getElem?_cons_zero, List.getElem?_cons_succ, hl, typeInfo_run hinf, Bool.false_eq_true, if_false, hnf, Sem.run_ite]
            all_goals rw [if_neg (by intro hh; exact hn64 hh.1), if_neg hlim]
            all_goals simp only [Sem.run_bind, hch, Result.andThen_ok, run_askRoom, hold', hr _ hwd, run_zero hz, newRow, run_newObj, Sem.run_pure, Bool.not_false, if_true]
            all_goals simp [rest]
            all_goals (congr 2; rw [← Array.toList_inj]; simp)
        · refine hw.setI j hj _ rfl rfl rfl (by simp) (fun q' hq => .inr ?_) (.inr ⟨w.heap.size, rest, rfl, by simp, ?_, ?_⟩) (fun q' hq1 _ => ?_)
          · have hq' : (some (⟨w.heap.size, 0, none⟩ : Addr)) = some ⟨q', 0, none⟩ := hq
            simp only [Option.some.injEq, Addr.mk.injEq, and_true] at hq'
            subst hq'; simp
          · simp only [List.length_append, hlen, hxl, Nat.add_mul]
          · simp only [List.length_append, hlen, hxl, hrestl]
            rw [← Nat.add_mul, ← Nat.add_mul]; congr 1; omega
          · show (w.heap.push _)[q']? = _
            rw [Array.getElem?_push, if_neg (by omega)]
  · cases he
end
end Go.Proofs.Ytfhhggcdmgjbcaa.Sx

namespace Go.Proofs.Ytfhhggcdmgjbcaa.Sx
open Go Go.RowKit

section
variable {X : Cx} {ops : Array Oper} {i k : Nat} {E : Env} {S : List Item} {Q : Exit → Act → World → Prop}

theorem own_cell {w0 w : World} {S : List Item} (hw : Heap w0 S w) (j : Nat) {T : TypeId} {sz : Nat} {b n c : Nat} {xs : List Value} (hj : S[j]? = some (own T sz (some ⟨b, 0, none⟩) n c xs)) {o : Nat} {v : Value} (hv : xs[o]? = some v) :
    w.cell? ⟨b, o, none⟩ = some v := by
  rcases hw.at_ j hj with ⟨h1, _⟩ | ⟨b', rest, h1, h2, _, _⟩
  · cases h1
  · simp only [Option.some.injEq, Addr.mk.injEq, and_true] at h1
    subst h1
    rw [cell_blk h2]
    have := (List.getElem?_eq_some_iff.1 hv).1
    simp only [List.getElem?_toArray]
    rw [List.getElem?_append_left this]; exact hv
theorem pv_load_own {t T : TypeId} {x : Operand} {sz b o n c : Nat} {xs : List Value} {v : Value} (j : Nat) (hx : E.op x = some (.pointer (some ⟨b, o, none⟩)))
    (hj : S[j]? = some (own T sz (some ⟨b, 0, none⟩) n c xs)) (ht : oneT X.P t = true) (hv : xs[o]? = some v) : PV X E S (.load t x) v :=
  pv_load hx ht fun _ hw => own_cell hw j hj hv

theorem list_set_app (xs rest : List Value) (o : Nat) (v : Value) (h : o < xs.length) : (xs ++ rest).toArray.setIfInBounds o v = (xs.set o v ++ rest).toArray := by
  apply Array.ext_getElem?
  intro j
  by_cases e : o = j
  · subst e
    rw [Array.getElem?_setIfInBounds_self_of_lt (by simp; omega)]
    simp only [List.getElem?_toArray]
    rw [List.getElem?_append_left (by simpa using h), List.getElem?_set_self h]
  · rw [Array.getElem?_setIfInBounds_ne e]
    simp only [List.getElem?_toArray]
    by_cases h2 : j < xs.length
    · rw [List.getElem?_append_left h2, List.getElem?_append_left (by simpa using h2), List.getElem?_set_ne e]
    · rw [List.getElem?_append_right (by omega), List.getElem?_append_right (by simp; omega), List.length_set]

theorem rg_store_own {t T : TypeId} {x y : Operand} {g : Option (Nat × Bool)} {sz b o n c : Nat} {xs : List Value} {v : Value} (j : Nat) (ho : opAt ops i = some (none, .store t x y, g))
    (hc : (calm (.store t x y) && Nat.blt i k && (says ops E g == some true)) = true) (hx : E.op x = some (.pointer (some ⟨b, o, none⟩))) (hy : E.op y = some v)
    (hj : S[j]? = some (own T sz (some ⟨b, 0, none⟩) n c xs)) (hs : szT X.P t = some 1) (hv : v.cells = #[v]) (hone : v.oneCell' = true) (hle : o < xs.length)
    (h : Rg X ops (i + 1) k E (S.set j (own T sz (some ⟨b, 0, none⟩) n c (xs.set o v))) Q) : Rg X ops i k E S Q := by
  refine Rg.quiet ho hc fun a w op ha hw hop => ?_
  rcases hw.at_ j hj with ⟨h1, _⟩ | ⟨b', rest, h1, h2, h3, h4⟩
  · cases h1
  · simp only [Option.some.injEq, Addr.mk.injEq, and_true] at h1
    subst h1
    have hst := run_storeVar (P := X.P) (ty := t) (v := v) (o := o) h2 (by rw [hs, hv]; rfl) (by rw [hv]; simp; omega) (by rw [hv]; simpa using hone)
    rw [hv] at hst
    simp only [putCells] at hst
    rw [list_set_app xs rest o v hle] at hst
    refine ⟨{ w with heap := w.heap.setIfInBounds b (.cells (xs.set o v ++ rest).toArray T (0, 0)) }, _, ?_, ?_, h⟩
    · unfold execOp; rw [hop]
      simp [ha.eval hx, ha.eval hy, Instr.storeAt, Instr.sureAddr, hst]
    · refine hw.setI j hj _ rfl rfl rfl (by simp) (fun q hq => .inl hq) (.inr ⟨b, rest, rfl, by simp [(Array.getElem?_eq_some_iff.1 h2).1], by simpa using h3, by simpa using h4⟩) (fun q _ hq => ?_)
      refine Array.getElem?_setIfInBounds_ne (fun e => hq ?_)
      subst e; rfl

theorem firstCells_of {P : Program} {w : World} {sz m b o : Nat} {p : Option Addr} {n c : Nat} {ys : List Value} (hlen : ys.length = m * sz) (hp : 0 < m * sz → p = some ⟨b, o, none⟩) (h : ∀ i, i < ys.length → w.cell? ⟨b, o + i, none⟩ = ys[i]?) :
    (Builtin.firstCells sz m (.slice p n c)).run P w = .ok ys.toArray w := by
  by_cases h0 : 0 < m * sz
  · rw [hp h0]
    simp only [Builtin.firstCells]
    have := run_loadCells_list (P := P) w ⟨b, o, none⟩ ys (fun jj vv hv => by
      rw [add_mk, h jj (List.getElem?_eq_some_iff.1 hv).1, hv])
    rwa [hlen] at this
  · have e : m * sz = 0 := by omega
    have : ys = [] := by rw [e] at hlen; exact List.length_eq_zero_iff.1 hlen
    subst this
    cases p with
    | none => simp [Builtin.firstCells]
    | some a => simp [Builtin.firstCells, e, loadCells, loadCellsFrom]
theorem firstCells_own {w0 w : World} {S : List Item} (hw : Heap w0 S w) {P : Program} (j : Nat) {T : TypeId} {sz : Nat} {p : Option Addr} {n c : Nat} {xs : List Value} (hj : S[j]? = some (own T sz p n c xs)) {n' c' : Nat} :
    (Builtin.firstCells sz n (.slice p n' c')).run P w = .ok xs.toArray w := by
  rcases hw.at_ j hj with ⟨rfl, rfl, rfl, rfl⟩ | ⟨b, rest, rfl, h2, h3, _⟩
  · simp [Builtin.firstCells]
  · refine firstCells_of (b := b) (o := 0) h3 (fun _ => rfl) fun q hq => ?_
    rw [Nat.zero_add, cell_blk h2]
    simp only [List.getElem?_toArray]
    rw [List.getElem?_append_left hq]

/-- make, the length and the room one number -/
theorem rg_makeSlice {d : Nat} {t e sz : TypeId} {x y : Operand} {g : Option (Nat × Bool)} {L : Int} {zv : Value} (ho : opAt ops i = some (some d, .makeSlice t x y, g))
    (hc : (calm (.makeSlice t x y) && Nat.blt d X.N && Nat.blt i k && (says ops E g == some true)) = true) (hx : E.op x = some (.int .i64 L)) (hy : E.op y = some (.int .i64 L))
    (he : elemT X.P t = some (e, sz)) (hz : zeroT X.P e = some zv) (hzs : zv.cells = #[zv]) (hsz : sz = 1) (h0 : 0 ≤ L) (h1 : L ≤ 4294967296) (hb : bytesT X.P e ≤ 65536)
    (h : ∀ b, Rg X ops (i + 1) k ((d, .slice (some ⟨b, 0, none⟩) L.toNat L.toNat) :: E) (own e 1 (some ⟨b, 0, none⟩) L.toNat L.toNat (List.replicate L.toNat zv) :: S) Q) : Rg X ops i k E S Q := by
  subst hsz
  refine Rg.value ho hc fun a w o ha hw hop => ?_
  unfold elemT at he
  split at he
  · rename_i e' hu
    cases hs : szT X.P e' with
    | none => rw [hs] at he; cases he
    | some q =>
      rw [hs] at he
      simp only [Option.map_some, Option.some.injEq, Prod.mk.injEq] at he
      obtain ⟨rfl, rfl⟩ := he
      have hti : ∃ inf, X.P.info? e' = some inf ∧ inf.bytes = bytesT X.P e' := by
        unfold szT at hs
        cases hi : X.P.info? e' with
        | none => rw [hi] at hs; cases hs
        | some inf => exact ⟨inf, rfl, by simp [bytesT, hi]⟩
      obtain ⟨inf, hinf, hbytes⟩ := hti
      have hwr : IntKind.i64.wrap L = L := IntWalk.i64_in _ ⟨by omega, by omega⟩
      have hbig : (inf.bytes : Int) * L ≤ 281474976710656 := by
        have h3 : (inf.bytes : Int) ≤ 65536 := by omega
        have h4 : (inf.bytes : Int) * L ≤ 65536 * 4294967296 := Int.mul_le_mul h3 h1 h0 (by omega)
        omega
      have harr : ((Array.range L.toNat).map fun q => zv.cells[q % zv.cells.size]!) = (List.replicate L.toNat zv).toArray := by
        apply Array.ext
        · simp
        · intro q h5 h6
          simp only [Array.getElem_map, Array.getElem_range, List.getElem_toArray, List.getElem_replicate]
          simp [hzs, Nat.mod_one]
      refine ⟨.slice (some ⟨w.heap.size, 0, none⟩) L.toNat L.toNat, { w with heap := w.heap.push (.cells (List.replicate L.toNat zv).toArray e' (0, 0)) }, _, ?_, ?_, h w.heap.size⟩
      · unfold execOp; rw [hop]
        simp only [ha.eval hx, ha.eval hy]
        unfold Instr.makeSlice
        have hnb : ¬ (281474976710656 < (inf.bytes : Int) * L) := by omega
        have hL0 : ¬ L < 0 := by omega
        by_cases hz0 : L.toNat = 0
        · have hL : L = 0 := by omega
          subst hL
          simp [run_underlying hu, asInt, asIntOf, typeInfo_run hinf, hwr, run_szOf hs, newRow]
          exact congrArg (fun c => w.alloc (Obj.cells c e')) (Array.ext (by simp) (by simp))
        · simp [run_underlying hu, asInt, asIntOf, typeInfo_run hinf, hwr, run_szOf hs, hz0, newRow, hnb, hL0, run_zero hz, harr]
      · refine hw.newI _ rfl rfl rfl (by simp) (fun q hq => ?_) (.inr ⟨w.heap.size, [], rfl, by simp, by simp, by simp⟩) (fun q hq => by rw [Array.getElem?_push, if_neg (by omega)])
        have hq' : (some (⟨w.heap.size, 0, none⟩ : Addr)) = some ⟨q, 0, none⟩ := hq
        simp only [Option.some.injEq, Addr.mk.injEq, and_true] at hq'
        subst hq'; simp
  · cases he

/-! ### More values -/
/-- the byte at a place of a text -/
def sb (s : ByteArray) (i : Nat) : Int := ((s.data.toList.getD i 0).toNat : Int)
theorem sb_range (s : ByteArray) (i : Nat) : 0 ≤ sb s i ∧ sb s i ≤ 255 := by
  unfold sb
  have := (s.data.toList.getD i 0).toNat_lt
  omega
theorem pv_index_string {t : TypeId} {x y : Operand} {s : ByteArray} {q : IntKind} {n : Int} (hx : E.op x = some (.string s)) (hy : E.op y = some (.int q n)) (ht : isStringT X.P t = true) (h0 : 0 ≤ n) (h1 : n < s.size) :
    PV X E S (.index t x y) (.int .u8 (sb s n.toNat)) := by
  intro a w o ha _ ho
  unfold isStringT at ht
  split at ht
  · rename_i hu
    unfold execOp; rw [ho]
    have hlt : n.toNat < s.size := by omega
    have hge : s[n.toNat]? = some (s[n.toNat]'hlt) := by
      show (if h : _ then _ else _) = _
      rw [dif_pos hlt]
    have hb : sb s n.toNat = ((s[n.toNat]'hlt).toNat : Int) := by
      unfold sb
      rw [List.getD_eq_getElem?_getD, List.getElem?_eq_getElem (by simpa using hlt)]
      rfl
    rw [hb]
    simp [ha.eval hx, ha.eval hy, Instr.index, asIntOf, run_underlying hu, h0, hge]
  · cases ht
theorem pv_eql_str {t u : TypeId} {x y : Operand} {a b : ByteArray} (hx : E.op x = some (.string a)) (hy : E.op y = some (.string b)) : PV X E S (.binOp .eql t x y u) (.bool (decide (a = b))) := by
  intro ac w o ha _ ho
  unfold execOp; rw [ho]
  have : (a.toList == b.toList) = decide (a = b) := by rw [Bool.eq_iff_iff]; simp [ByteArray.toList_eq, ByteArray.ext_iff]
  simp [ha.eval hx, ha.eval hy, eqGuard_str, binOp, Op.stringOp, this]
theorem pv_neq_str {t u : TypeId} {x y : Operand} {a b : ByteArray} (hx : E.op x = some (.string a)) (hy : E.op y = some (.string b)) : PV X E S (.binOp .neq t x y u) (.bool (!decide (a = b))) := by
  intro ac w o ha _ ho
  unfold execOp; rw [ho]
  have : (a.toList == b.toList) = decide (a = b) := by rw [Bool.eq_iff_iff]; simp [ByteArray.toList_eq, ByteArray.ext_iff]
  simp [ha.eval hx, ha.eval hy, eqGuard_str, binOp, Op.stringOp, this]
def intT (P : Program) (t : TypeId) : Option IntKind := match P.underlying t with | some (.int q) => some q | _ => none
theorem pv_convert {s t : TypeId} {x : Operand} {q q' : IntKind} {n : Int} (hx : E.op x = some (.int q n)) (hs : (X.P.underlying s).isSome = true) (ht : intT X.P t = some q') : PV X E S (.convert s t x) (.int q' (q'.wrap n)) := by
  intro a w o ha _ ho
  unfold intT at ht
  split at ht
  · rename_i qq hu
    simp only [Option.some.injEq] at ht
    subst ht
    unfold execOp; rw [ho]
    have := run_convert_int (P := X.P) w s t q n hs (by rw [hu]; simp [Program.intKind, hu])
    simp [ha.eval hx, this, Program.intKind, hu]
  · cases ht
theorem pv_convertb {s t : TypeId} {x : Operand} {q q' : IntKind} {n : Int} (hx : E.op x = some (.int q n)) (hs : (X.P.underlying s).isSome = true) (ht : intT X.P t = some q') (hn : inKind q' n) : PV X E S (.convert s t x) (.int q' n) := by
  have := pv_convert (S := S) hx hs ht
  rwa [show q'.wrap n = n from hn] at this

/-- where a part of a slice begins -/
def subP (p : Option Addr) (c l sz : Nat) : Option Addr := if c = l then p else p.map (·.add (l * sz))
def bnd (E : Env) : Option Operand → Option (Option Nat)
  | none => some none
  | some x => match E.op x with
    | some (.int _ n) => if 0 ≤ n then some (some n.toNat) else none
    | _ => none
theorem run_sliceBound {P : Program} {w : World} {q : IntKind} {n : Int} {y : Nat} {c : BoundsCode} (h0 : 0 ≤ n) (h1 : n ≤ y) : (Instr.sliceBound (.int q n) y c).run P w = .ok n.toNat w := by
  unfold Instr.sliceBound; simp [asIntOf, h0, h1]
/-- x[l:] -/
theorem pv_slice_lo {t e sz : TypeId} {x y : Operand} {p : Option Addr} {n c : Nat} {q : IntKind} {l : Int} (hx : E.op x = some (.slice p n c)) (hy : E.op y = some (.int q l)) (he : elemT X.P t = some (e, sz)) (h0 : 0 ≤ l) (h1 : l ≤ n) :
    PV X E S (.slice t x (some y) none none) (.slice (subP p c l.toNat sz) (n - l.toNat) (c - l.toNat)) := by
  intro a w o ha _ ho
  unfold elemT at he
  split at he
  · rename_i e' hu
    cases hs : szT X.P e' with
    | none => rw [hs] at he; cases he
    | some qq =>
      rw [hs] at he
      simp only [Option.map_some, Option.some.injEq, Prod.mk.injEq] at he
      obtain ⟨rfl, rfl⟩ := he
      unfold execOp; rw [ho]
      simp [ha.eval hx, ha.eval hy, Instr.sliceAt, run_underlying hu, Instr.slice, Instr.sliceBounds, run_sliceBound h0 h1, run_szOf hs, subP]
  · cases he
/-- x[:h] -/
theorem pv_slice_hi {t e sz : TypeId} {x y : Operand} {p : Option Addr} {n c : Nat} {q : IntKind} {l : Int} (hx : E.op x = some (.slice p n c)) (hy : E.op y = some (.int q l)) (he : elemT X.P t = some (e, sz)) (h0 : 0 ≤ l) (h1 : l ≤ c) :
    PV X E S (.slice t x none (some y) none) (.slice p l.toNat c) := by
  intro a w o ha _ ho
  unfold elemT at he
  split at he
  · rename_i e' hu
    cases hs : szT X.P e' with
    | none => rw [hs] at he; cases he
    | some qq =>
      rw [hs] at he
      simp only [Option.map_some, Option.some.injEq, Prod.mk.injEq] at he
      obtain ⟨rfl, rfl⟩ := he
      have hp : (if c = 0 then p else Option.map (fun x => Addr.add x 0) p) = p := by
        split
        · rfl
        · cases p <;> simp [Addr.add]
      unfold execOp; rw [ho]
      simp [ha.eval hx, ha.eval hy, Instr.sliceAt, run_underlying hu, Instr.slice, Instr.sliceBounds, run_sliceBound h0 h1, run_szOf hs, hp]
  · cases he
/-- x[:h:m] -/
theorem pv_slice_hm {t e sz : TypeId} {x y z : Operand} {p : Option Addr} {n c : Nat} {q q' : IntKind} {l m : Int} (hx : E.op x = some (.slice p n c)) (hy : E.op y = some (.int q l)) (hz : E.op z = some (.int q' m)) (he : elemT X.P t = some (e, sz)) (h0 : 0 ≤ l) (h1 : l ≤ m) (h2 : m ≤ c) :
    PV X E S (.slice t x none (some y) (some z)) (.slice p l.toNat m.toNat) := by
  intro a w o ha _ ho
  unfold elemT at he
  split at he
  · rename_i e' hu
    cases hs : szT X.P e' with
    | none => rw [hs] at he; cases he
    | some qq =>
      rw [hs] at he
      simp only [Option.map_some, Option.some.injEq, Prod.mk.injEq] at he
      obtain ⟨rfl, rfl⟩ := he
      have hp : Option.map (fun x => Addr.add x 0) p = p := by cases p <;> simp [Addr.add]
      have hlm : l ≤ (m.toNat : Int) := by omega
      unfold execOp; rw [ho]
      simp [ha.eval hx, ha.eval hy, ha.eval hz, Instr.sliceAt, run_underlying hu, Instr.slice, Instr.sliceBounds, run_sliceBound (show (0 : Int) ≤ m by omega) h2, run_sliceBound h0 hlm, run_szOf hs, hp]
  · cases he
/-- of an array in memory: all of it -/
theorem pv_slice_arr {t e : TypeId} {m : Nat} {x : Operand} {b o : Nat} (hx : E.op x = some (.pointer (some ⟨b, o, none⟩))) (he : X.P.underlying t = some (.array m e)) (hs : (szT X.P e).isSome = true) :
    PV X E S (.slice t x none none none) (.slice (some ⟨b, o, none⟩) m m) := by
  intro a w op ha _ ho
  obtain ⟨q, hq⟩ := Option.isSome_iff_exists.1 hs
  unfold execOp; rw [ho]
  simp [ha.eval hx, Instr.sliceAt, run_underlying he, Instr.sliceBounds, Instr.sureAddr, run_szOf hq, Addr.add]
theorem pv_arrPtr {t e : TypeId} {m : Nat} {x : Operand} {p : Option Addr} {n c : Nat} (hx : E.op x = some (.slice p n c)) (he : X.P.underlying t = some (.array m e)) (hn : m ≤ n) : PV X E S (.sliceToArrayPointer t x) (.pointer p) := by
  intro a w op ha _ ho
  unfold execOp; rw [ho]
  simp [ha.eval hx, Instr.arrayAt, run_underlying he, show ¬ n < m by omega]

/-- a literal slice -/
theorem rg_buildSlice {d : Nat} {t e sz len : Nat} {parts : List (Nat × Operand)} {g : Option (Nat × Bool)} {vs : List Value} {cs : Array Value} (ho : opAt ops i = some (some d, .buildSlice t len parts.toArray, g))
    (hc : (calm (.buildSlice t len parts.toArray) && Nat.blt d X.N && Nat.blt i k && (says ops E g == some true)) = true) (hx : Env.opsOf E (parts.map (·.2)) = some vs)
    (he : elemT X.P t = some (e, sz)) (zv : Value) (hz : zeroT X.P e = some zv) (hlz : (Nat.blt 0 (len * sz) && Nat.ble (len * sz) 16777216) = true)
    (hf : Instr.fill (fun i => some (i * sz, sz)) ((Array.range (len * sz)).map (zv.cells[· % zv.cells.size]!)) ((parts.map (·.1)).zip vs) = some cs)
    (h : ∀ b, Rg X ops (i + 1) k ((d, .slice (some ⟨b, 0, none⟩) len len) :: E) (blk b (.cells cs e (0, 0)) :: S) Q) : Rg X ops i k E S Q := by
  refine Rg.value ho hc fun a w o ha hw hop => ?_
  unfold elemT at he
  split at he
  · rename_i e' hu
    cases hs : szT X.P e' with
    | none => rw [hs] at he; cases he
    | some qq =>
      rw [hs] at he
      simp only [Option.map_some, Option.some.injEq, Prod.mk.injEq] at he
      obtain ⟨rfl, rfl⟩ := he
      simp only [Bool.and_eq_true, Nat.blt_eq, Nat.ble_eq] at hlz
      refine ⟨.slice (some ⟨w.heap.size, 0, none⟩) len len, _, _, ?_, hw.alloc (.cells cs e' (0, 0)), h w.heap.size⟩
      have hparts : (parts.toArray.map fun x => (x.1, a.eval x.2)).toList = (parts.map (·.1)).zip vs := by
        have := ha.evals hx
        rw [← this]
        simp only [List.map_toArray]
        rw [List.map_map, List.zip_map']
        rfl
      unfold execOp; rw [hop]
      simp only [Instr.buildSlice, Sem.run_bind, run_underlying hu, Result.andThen_ok, run_szOf hs]
      rw [Sem.run_ite, if_neg (by omega)]
      simp only [Sem.run_bind, Sem.run_pure, Result.andThen_ok, Sem.run_ite]
      rw [if_neg (by omega)]
      simp only [Sem.run_bind, run_zero hz, Sem.run_pure, Result.andThen_ok, hparts, hf, newRow, run_newObj]
  · cases he

/-! ### Bits -/
def bitsI (op : BinOp) (k : IntKind) (x y : Int) : Int :=
  let a := BitVec.ofInt k.bits x
  let b := BitVec.ofInt k.bits y
  match op with
  | .and => k.wrap (a &&& b).toNat
  | .or => k.wrap (a ||| b).toNat
  | .xor => k.wrap (a ^^^ b).toNat
  | .andNot => k.wrap (a &&& ~~~b).toNat
  | _ => 0
def isBits : BinOp → Bool
  | .and | .or | .xor | .andNot => true
  | _ => false
def shrI (k : IntKind) (x y : Int) : Int := x.fdiv (2 ^ min y.toNat k.bits)
def shlI (k : IntKind) (x y : Int) : Int := k.wrap (x * 2 ^ min y.toNat k.bits)
def negI (k : IntKind) (x : Int) : Int := k.wrap (0 - x)
def invI (k : IntKind) (x : Int) : Int := bitsI .xor k (if k.signed then -1 else k.max) x
theorem pv_bits {op : BinOp} {t u : TypeId} {x y : Operand} {q : IntKind} {m n : Int} (hx : E.op x = some (.int q m)) (hy : E.op y = some (.int q n)) (hb : isBits op = true) : PV X E S (.binOp op t x y u) (.int q (bitsI op q m n)) :=
  pv_int hx hy fun w => by cases op <;> first | (simp [binOp, Op.intBits, bitsI]; done) | cases hb
theorem pv_shr {t u : TypeId} {x y : Operand} {q q' : IntKind} {m n : Int} (hx : E.op x = some (.int q m)) (hy : E.op y = some (.int q' n)) (h0 : 0 ≤ n) : PV X E S (.binOp .shr t x y u) (.int q (shrI q m n)) := by
  intro a w o ha _ ho
  unfold execOp; rw [ho]; simp [ha.eval hx, ha.eval hy, eqGuard_int, binOp, Op.shift, shrI, show ¬ n < 0 by omega]
theorem pv_shl {t u : TypeId} {x y : Operand} {q q' : IntKind} {m n : Int} (hx : E.op x = some (.int q m)) (hy : E.op y = some (.int q' n)) (h0 : 0 ≤ n) : PV X E S (.binOp .shl t x y u) (.int q (shlI q m n)) := by
  intro a w o ha _ ho
  unfold execOp; rw [ho]; simp [ha.eval hx, ha.eval hy, eqGuard_int, binOp, Op.shift, shlI, show ¬ n < 0 by omega]
theorem pv_neg {t : TypeId} {x : Operand} {q : IntKind} {m : Int} (hx : E.op x = some (.int q m)) : PV X E S (.unOp .neg t x) (.int q (negI q m)) := by
  intro a w o ha _ ho
  unfold execOp; rw [ho]; simp [ha.eval hx, Op.unary, Op.intArith, negI]
theorem pv_inv {t : TypeId} {x : Operand} {q : IntKind} {m : Int} (hx : E.op x = some (.int q m)) : PV X E S (.unOp .xor t x) (.int q (invI q m)) := by
  intro a w o ha _ ho
  unfold execOp; rw [ho]; simp [ha.eval hx, Op.unary, Op.intBits, invI, bitsI]
theorem in_u8 {m : Int} (h1 : 0 ≤ m) (h2 : m ≤ 255) : inKind .u8 m := IntWalk.u8_in _ ⟨h1, h2⟩
end
end Go.Proofs.Ytfhhggcdmgjbcaa.Sx

namespace Go.Proofs.Ytfhhggcdmgjbcaa.Sx
open Go Go.RowKit

/-- several items as one -/
def items (L : List Item) : Item :=
  ⟨fun k => ∃ it ∈ L, it.fp k, fun w => (∀ it ∈ L, it.ok w) ∧ L.Pairwise (fun (x y : Item) => ∀ k : Nat, x.fp k → ¬ y.fp k),
   fun w w' h hw => ⟨fun it hit => it.stable w w' (fun k hk => h k ⟨it, hit, hk⟩) (hw.1 it hit), hw.2⟩⟩

section
variable {w0 w : World} {L S : List Item}
theorem Heap.unitems (h : Heap w0 (items L :: S) w) : Heap w0 (L ++ S) w := by
  have hi := h.ok (items L) (List.mem_cons_self ..)
  obtain ⟨hp1, hp2⟩ := List.pairwise_cons.1 h.apart
  refine ⟨h.os, h.tape, h.output, fun it hit => ?_, fun it hit k hk => ?_, ?_⟩
  · rcases List.mem_append.1 hit with hit | hit
    · exact hi.1 it hit
    · exact h.ok it (List.mem_cons_of_mem _ hit)
  · rcases List.mem_append.1 hit with hit | hit
    · exact h.low (items L) (List.mem_cons_self ..) k ⟨it, hit, hk⟩
    · exact h.low it (List.mem_cons_of_mem _ hit) k hk
  · exact List.pairwise_append.2 ⟨hi.2, hp2, fun x hx y hy k hk => hp1 y hy k ⟨x, hx, hk⟩⟩
theorem Heap.toItems (h : Heap w0 (L ++ S) w) : Heap w0 (items L :: S) w := by
  obtain ⟨h1, h2, h3⟩ := List.pairwise_append.1 h.apart
  refine ⟨h.os, h.tape, h.output, fun it hit => ?_, fun it hit k hk => ?_, List.Pairwise.cons (fun y hy k hk => ?_) h2⟩
  · rcases List.mem_cons.1 hit with rfl | hit
    · exact ⟨fun it hit => h.ok it (List.mem_append_left _ hit), h1⟩
    · exact h.ok it (List.mem_append_right _ hit)
  · rcases List.mem_cons.1 hit with rfl | hit
    · obtain ⟨it, hit, hk⟩ := hk; exact h.low it (List.mem_append_left _ hit) k hk
    · exact h.low it (List.mem_append_right _ hit) k hk
  · obtain ⟨it, hit, hk⟩ := hk; exact h3 it hit y hy k hk
theorem Heap.perm {S' : List Item} (h : Heap w0 S w) (hp : S.Perm S') : Heap w0 S' w :=
  ⟨h.os, h.tape, h.output, fun it hit => h.ok it (hp.mem_iff.2 hit), fun it hit => h.low it (hp.mem_iff.2 hit),
   (hp.pairwise_iff (fun hxy k hk hk' => hxy k hk' hk)).1 h.apart⟩
/-- the blocks in front of two items, and the second, as one frame -/
theorem Heap.frame {own S0 : List Item} {J fr : Item} (h : Heap w0 (own ++ (J :: fr :: S0)) w) : Heap w0 (J :: items (own ++ [fr]) :: S0) w := by
  have h1 : Heap w0 ((own ++ [fr]) ++ (J :: S0)) w := h.perm (by
    rw [List.append_assoc]
    refine List.Perm.append_left own ?_
    exact List.Perm.swap ..)
  exact h1.toItems.perm (List.Perm.swap ..)
theorem Heap.unframe {own S0 : List Item} {J fr : Item} (h : Heap w0 (J :: items (own ++ [fr]) :: S0) w) : Heap w0 (own ++ (J :: fr :: S0)) w := by
  have h1 : Heap w0 ((own ++ [fr]) ++ (J :: S0)) w := (h.perm (List.Perm.swap ..)).unitems
  refine h1.perm ?_
  rw [List.append_assoc]
  exact List.Perm.append_left own (List.Perm.swap ..)
end

/-- a call of yield asks for a round, that comes to this -/
def YieldTo (P : Program) (l : Nat) (args : Array Value) (w : World) (R : Ending → World → Prop) : Prop :=
  ∃ fn tmps assign body, (Instr.yield l args).run P w = .ok (.round l fn tmps assign body) w ∧ RoundIn (fence none) 0 P l fn tmps assign body w R

/-- an iterator that hands these rows to its rounds, in order, as long as they say yes; 'mine': memory of its own, which the rounds leave alone -/
def IterAt (P : Program) (g : FuncId) (caps : Array Value) (xs : List (List Value)) (w0 : World) (mine S : List Item) : Prop :=
  ∀ (T : Type) (J Jx : Nat → T → Item) (l : Nat) (t0 : T) (w : World) (fr : Item), Heap w0 (mine ++ (J 0 t0 :: fr :: S)) w →
    (∀ (n : Nat) (t : T) (w : World) (fr : Item), n < xs.length → Heap w0 (J n t :: fr :: S) w →
      YieldTo P l (xs.getD n []).toArray w fun e w' =>
        (e = .returned (.bool true) ∧ ∃ t', Heap w0 (J (n + 1) t' :: fr :: S) w') ∨ (e = .returned (.bool false) ∧ ∃ t', Heap w0 (Jx (n + 1) t' :: fr :: S) w')) →
    Calls P g (#[.func (.yield l) #[] #[]] ++ caps) w fun e w' => (∃ v, e = .returned v) ∧
      ((∃ t', Heap w0 (J xs.length t' :: fr :: S) w') ∨ (∃ n t', n ≤ xs.length ∧ Heap w0 (Jx n t' :: fr :: S) w'))

theorem YieldTo.mono {P : Program} {l : Nat} {args : Array Value} {w : World} {R R' : Ending → World → Prop} (h : YieldTo P l args w R) (hr : ∀ e w, R e w → R' e w) : YieldTo P l args w R' := by
  obtain ⟨fn, tmps, assign, body, h1, h2⟩ := h
  exact ⟨fn, tmps, assign, body, h1, h2.mono hr⟩
theorem yield_own {P : Program} {T : Type} {J Jx : Nat → T → Item} {l : Nat} {w0 : World} {xs : List (List Value)} {S0 : List Item} {fr : Item}
    (hY : ∀ (n : Nat) (t : T) (w : World) (fr : Item), n < xs.length → Heap w0 (J n t :: fr :: S0) w →
      YieldTo P l (xs.getD n []).toArray w fun e w' =>
        (e = .returned (.bool true) ∧ ∃ t', Heap w0 (J (n + 1) t' :: fr :: S0) w') ∨ (e = .returned (.bool false) ∧ ∃ t', Heap w0 (Jx (n + 1) t' :: fr :: S0) w'))
    (own : List Item) (n : Nat) (t : T) (hn : n < xs.length) {vs : List Value} (hv : xs.getD n [] = vs) : ∀ w, Heap w0 (own ++ (J n t :: fr :: S0)) w →
      YieldTo P l vs.toArray w fun e w' => (e = .returned (.bool true) ∧ ∃ t', Heap w0 (own ++ (J (n + 1) t' :: fr :: S0)) w') ∨ (e = .returned (.bool false) ∧ ∃ t', Heap w0 (own ++ (Jx (n + 1) t' :: fr :: S0)) w') := by
  intro w hw
  rw [← hv]
  refine (hY n t w (items (own ++ [fr])) hn hw.frame).mono ?_
  rintro e w' (⟨h1, t', h2⟩ | ⟨h1, t', h2⟩)
  · exact .inl ⟨h1, t', h2.unframe⟩
  · exact .inr ⟨h1, t', h2.unframe⟩

/-! ### The iterator's side: a call of yield -/
section
variable {X : Cx} {ops : Array Oper} {i k : Nat} {E : Env} {S : List Item} {Q : Exit → Act → World → Prop}
theorem rg_yield {T : Type} {d l : Nat} {fo : Operand} {xs : Array Operand} {ts : Array TypeId} {g : Option (Nat × Bool)} {vs : List Value} {S1 S2 : T → List Item} (hr : X.r = none)
    (ho : opAt ops i = some (some d, .call { callee := .value fo, args := xs, argTypes := ts }, g))
    (hc : (true && Nat.blt d X.N && Nat.blt i k && (says ops E g == some true)) = true) (hfo : E.op fo = some (.func (.yield l) #[] #[])) (hx : Env.opsOf E xs.toList = some vs)
    (hY : ∀ w, Heap X.w0 S w → YieldTo X.P l vs.toArray w fun e w' => (e = .returned (.bool true) ∧ ∃ t, Heap X.w0 (S1 t) w') ∨ (e = .returned (.bool false) ∧ ∃ t, Heap X.w0 (S2 t) w'))
    (ht : ∀ t, Rg X ops (i + 1) k ((d, .bool true) :: E) (S1 t) Q) (hf : ∀ t, Rg X ops (i + 1) k ((d, .bool false) :: E) (S2 t) Q) : Rg X ops i k E S Q := by
  intro a w ha hw
  simp only [Bool.and_eq_true, beq_iff_eq, Nat.blt_eq] at hc
  obtain ⟨⟨⟨_, hd⟩, hik⟩, hs⟩ := hc
  rw [range_step (by simpa using hik)]
  simp only [opAt] at ho
  cases hoi : ops[i]? with
  | none => rw [hoi] at ho; simp at ho
  | some o =>
    rw [hoi] at ho
    simp only [Option.map_some, core, Option.some.injEq, Prod.mk.injEq] at ho
    obtain ⟨h1, h2, h3⟩ := ho
    simp only [wpOpsIn, hoi]
    rw [if_pos (says_wanted ha (by rw [h3]; exact hs))]
    refine ⟨fun _ _ => trivial, ?_⟩
    obtain ⟨fn, tmps, assign, body, hy, hR⟩ := hY w hw
    have he : (xs.map a.eval) = vs.toArray := by
      have := ha.evals hx
      rw [← Array.toList_inj]; simpa using this
    have hrun : (execOp a.eval o).run X.P w = .ok (.round l fn tmps assign body) w := by
      unfold execOp; rw [h2]
      simp [resolve, ha.eval hfo, Deferred.ofValue, he, invoke, hy]
    rw [semAt_calm (by rw [h2]; rfl), hrun, Oper.uponIn_round]
    refine ⟨fun h => by simp [fence, Fence.wide] at h, ?_⟩
    have key : ∀ R, RoundIn (fence none) 0 X.P l fn tmps assign body w R → RoundIn (fence X.r) (0 - 1) X.P l fn tmps assign body w R := by
      rw [hr]; exact fun _ h => h
    refine (key _ hR).mono ?_
    rintro e w' (⟨rfl, t, hw'⟩ | ⟨rfl, t, hw'⟩)
    · dsimp only; rw [h1]; exact ht t _ _ (ha.put hd _) hw'
    · dsimp only; rw [h1]; exact hf t _ _ (ha.put hd _) hw'

/-- a function whose call begins in a memory of which this is known -/
theorem calls_of_heap {P : Program} {f : FuncId} {fn : Func} {args : List Value} {w w0 : World} {R : Ending → World → Prop} (S : List Item) (hf : P.funcs[f]? = some fn) (hb : fn.body.isSome = true) (hn : Nat.ble args.length fn.ntmps = true)
    (hS : Heap w0 S w) (h : Ev ⟨none, P, fn.ntmps, [], w0⟩ (fbody fn) (envOf args 0) S (bodyPost P fn R)) : Calls P f args.toArray w R := by
  have hb' : fn.body = some (fbody fn) := by
    unfold fbody
    cases hb' : fn.body with
    | none => rw [hb'] at hb; cases hb
    | some c => rfl
  refine callsIn_wide (n := 0) |>.1 (callsIn_of_wp hf hb' trivial ?_ rfl)
  refine h _ w ⟨?_, rfl, ?_⟩ hS
  · have := Nat.le_of_ble_eq_true hn; simp; omega
  · intro s v hs
    obtain ⟨_, h2⟩ := envOf_get args 0 s v hs
    have hlt : s < args.length := by
      have := (List.getElem?_eq_some_iff.1 h2).1; omega
    simp only [Nat.sub_zero] at h2
    show (args.toArray ++ Array.replicate _ undef)[s]? = some v
    rw [Array.getElem?_append_left (by simpa using hlt)]
    simpa using h2
/-- the same, of a function that holds ranges over functions -/
theorem calls_of_marks {P : Program} {f : FuncId} {fn : Func} {args : List Value} {w w0 : World} {R : Ending → World → Prop} (S : List Item) (hf : P.funcs[f]? = some fn) (hb : fn.body.isSome = true) (hn : Nat.ble args.length fn.ntmps = true)
    (hS : Heap w0 S w) (h : Ev ⟨none, P, fn.ntmps, [], w0⟩ (fbody fn) (envOf args 0) S (bodyPostM (fence none) 0 P fn R)) : Calls P f args.toArray w R := by
  have hb' : fn.body = some (fbody fn) := by
    unfold fbody
    cases hb' : fn.body with
    | none => rw [hb'] at hb; cases hb
    | some c => rfl
  refine callsIn_wide (n := 0) |>.1 (callsIn_of_wp_marks hf hb' trivial ?_ rfl)
  refine h _ w ⟨?_, rfl, ?_⟩ hS
  · have := Nat.le_of_ble_eq_true hn; simp; omega
  · intro s v hs
    obtain ⟨_, h2⟩ := envOf_get args 0 s v hs
    have hlt : s < args.length := by
      have := (List.getElem?_eq_some_iff.1 h2).1; omega
    simp only [Nat.sub_zero] at h2
    show (args.toArray ++ Array.replicate _ undef)[s]? = some v
    rw [Array.getElem?_append_left (by simpa using hlt)]
    simpa using h2

/-! ### The loop's side -/
def setPs : List Nat → List Value → Env → Env
  | p :: ps, v :: vs, E => setPs ps vs ((p, v) :: E)
  | _, _, E => E
def rfShape : Code → Option (Nat × Array Tmp)
  | .rangeFunc (.tmp t) ps _ _ => some (t, ps)
  | _ => none

/-- the loop's record, by its state and its pending jump -/
structure LoopFam where
  rc : LoopState → Option Code → Loop
  state : ∀ s p, (rc s p).state = s
  pending : ∀ s p, (rc s p).pending = p
  turn : ∀ s p s' p', { rc s p with state := s', pending := p' } = rc s' p'
  turn1 : ∀ s p s', { rc s p with state := s' } = rc s' p

theorem knows_setPs {N D} : ∀ (ps : List Nat) (vs : List Value) (E : Env) (a : Act), Knows N D E a → (∀ p ∈ ps, p < N) →
    Knows N D (setPs ps vs E) { a with tmps := (ps.zip vs).foldl (fun t (p, v) => t.setIfInBounds p v) a.tmps } := by
  intro ps
  induction ps with
  | nil => intro vs E a h _; simpa [setPs] using h
  | cons p ps ih =>
    intro vs E a h hp
    cases vs with
    | nil => simpa [setPs] using h
    | cons v vs =>
      simp only [setPs, List.zip_cons_cons, List.foldl_cons]
      have := ih vs ((p, v) :: E) (a.put (some p) v) (h.put (hp p (List.mem_cons_self ..)) v) (fun q hq => hp q (List.mem_cons_of_mem _ hq))
      exact this

/-- how a round is left, for the law below -/
def RoundTo {T : Type} (w0 : World) (F : LoopFam) (l Db : Nat) (J Jx : Nat → T → List Item) (jc : Code) (n : Nat) (fr : Item) (S0 : List Item) (e : Ending) (w' : World) : Prop :=
  (e = .returned (.bool true) ∧ ∃ t', Heap w0 (J (n + 1) t' ++ (blk l (.loop (F.rc .ready none)) :: blk Db (.deferred (some [])) :: fr :: S0)) w') ∨
  (e = .returned (.bool false) ∧ ∃ t', Heap w0 (Jx (n + 1) t' ++ (blk l (.loop (F.rc .done (some jc))) :: blk Db (.deferred (some [])) :: fr :: S0)) w')

/-- what is asked behind the assignment to the loop's variables -/
def BeginTo (P : Program) (l : Nat) (c : Code) (R : Ending → World → Prop) : Exit → Act → World → Prop :=
  Exit.then (fun a₁ w₁ => ∃ w₂, (Instr.beginRound l).run P w₁ = .ok () w₂ ∧ (cr c).wpIn ((fence none).inRound l) 0 P (roundPost P l R) a₁ w₂) (fun _ _ _ => False)

theorem ev_rangeFunc {c : Code} {t : Nat} {ps : Array Tmp} {gf : FuncId} {caps : Array Value} {T : Type} (xs : List (List Value)) (J Jx : Nat → T → List Item) (jc : Code) (t0 : T) (mine S0 : List Item)
    (hs : rfShape c = some (t, ps)) (hr : X.r = none) (hg : E.get t = some (.func (.func gf) #[] caps)) (hent : entered X.P gf = true) (hps : (ps.toList.all fun p => Nat.blt p X.N) = true) (hlen : ∀ x ∈ xs, x.length = ps.size)
    (hS : ∀ w, Heap X.w0 S w → Heap X.w0 (J 0 t0 ++ (mine ++ S0)) w) (hit : IterAt X.P gf caps xs X.w0 mine S0)
    (hround : ∀ (F : LoopFam) (l Db n : Nat) (t : T) (fr : Item), n < xs.length →
      Ev ⟨some l, X.P, X.N, [], X.w0⟩ (cl c) (setPs ps.toList (xs.getD n []) E) (J n t ++ (blk l (.loop (F.rc .ready none)) :: blk Db (.deferred (some [])) :: fr :: S0)) (BeginTo X.P l c (RoundTo X.w0 F l Db J Jx jc n fr S0)))
    (hdone : ∀ (Db : Nat) (t : T), At ⟨none, X.P, X.N, { target := .collected Db, args := #[] } :: X.D, X.w0⟩ .normal E (J xs.length t ++ (blk Db (.deferred (some [])) :: S0)) Q)
    (hjump : ∀ (Db n : Nat) (t : T), n ≤ xs.length → Ev ⟨none, X.P, X.N, { target := .collected Db, args := #[] } :: X.D, X.w0⟩ jc E (Jx n t ++ (blk Db (.deferred (some [])) :: S0)) Q) : Ev X c E S Q := by
  cases c with
  | rangeFunc g ps' assign body =>
    cases g with
    | tmp t' =>
      simp only [rfShape, Option.some.injEq, Prod.mk.injEq] at hs
      obtain ⟨rfl, rfl⟩ := hs
      intro a w ha hw
      rw [hr]
      refine wpIn_rangeFunc (F := fence none) fun fn _ => ?_
      let rec_ : LoopState → Option Code → Loop := fun st pe => { state := st, pending := pe, fn, tmps := a.tmps, params := ps', assign, body, defers := w.heap.size }
      let F : LoopFam := ⟨rec_, fun _ _ => rfl, fun _ _ => rfl, fun _ _ _ _ => rfl, fun _ _ _ => rfl⟩
      have hw1 : Heap X.w0 (blk (w.heap.size + 1) (.loop (F.rc .ready none)) :: blk w.heap.size (.deferred (some [])) :: (J 0 t0 ++ (mine ++ S0)))
          ((w.alloc (.deferred (some []))).alloc (.loop { state := .ready, pending := none, fn, tmps := a.tmps, params := ps', assign, body, defers := w.heap.size })) := by
        have h1 := ((hS w hw).alloc (.deferred (some [])))
        have h2 := h1.alloc (.loop (F.rc .ready none))
        have e : ({ w with heap := w.heap.push (.deferred (some [])) } : World).heap.size = w.heap.size + 1 := by simp
        rw [e] at h2
        exact h2
      have hg' : a.eval (.tmp t') = .func (.func gf) #[] caps := ha.eval (x := .tmp t') hg
      obtain ⟨W1, hW1⟩ : ∃ W1, ((w.alloc (.deferred (some []))).alloc (.loop { state := .ready, pending := none, fn, tmps := a.tmps, params := ps', assign, body, defers := w.heap.size })) = W1 := ⟨_, rfl⟩
      rw [hW1] at hw1
      refine ⟨w.heap.size + 1, [{ target := .collected w.heap.size, args := #[] }], W1, { target := .fn (.func gf) caps, args := #[.func (.yield (w.heap.size + 1)) #[] #[]] }, W1, gf,
        #[.func (.yield (w.heap.size + 1)) #[] #[]] ++ caps, W1, by rw [← hW1]; exact run_enterLoop_outer _ _ _ _ _, ?_, fun _ _ => trivial, ?_, fun h => by simp [fence, Fence.wide] at h, ?_⟩
      · simp only [resolve, hg']
        simp [Deferred.ofValue, Act.eval]
      · simp [invoke, run_callFunc hent]
      · refine calls_in ?_
        have h0 : Heap X.w0 (mine ++ (items (J 0 t0 ++ [blk (w.heap.size + 1) (.loop (F.rc .ready none)), blk w.heap.size (.deferred (some []))]) :: items [] :: S0)) W1 := by
          have h1 : Heap X.w0 (items [] :: ((J 0 t0 ++ [blk (w.heap.size + 1) (.loop (F.rc .ready none)), blk w.heap.size (.deferred (some []))]) ++ (mine ++ S0))) W1 := by
            refine Heap.toItems (L := []) ?_
            simp only [List.nil_append]
            refine hw1.perm ?_
            rw [List.append_assoc]
            exact List.perm_append_comm_assoc [_, _] (J 0 t0) (mine ++ S0)
          have h2 : Heap X.w0 (items (J 0 t0 ++ [blk (w.heap.size + 1) (.loop (F.rc .ready none)), blk w.heap.size (.deferred (some []))]) :: (items [] :: (mine ++ S0))) W1 :=
            Heap.toItems (L := J 0 t0 ++ [blk (w.heap.size + 1) (.loop (F.rc .ready none)), blk w.heap.size (.deferred (some []))]) (S := items [] :: (mine ++ S0)) (h1.perm List.perm_middle.symm)
          refine h2.perm ?_
          exact (List.perm_append_comm_assoc [_, _] mine S0)
        have hJ := hit T (fun n t => items (J n t ++ [blk (w.heap.size + 1) (.loop (F.rc .ready none)), blk w.heap.size (.deferred (some []))]))
          (fun n t => items (Jx n t ++ [blk (w.heap.size + 1) (.loop (F.rc .done (some jc))), blk w.heap.size (.deferred (some []))])) (w.heap.size + 1) t0
          W1 (items []) h0 ?_
        · refine hJ.mono ?_
          rintro e w3 ⟨⟨v, rfl⟩, hor⟩
          have drop_fr : ∀ {L : List Item} {A B : Item}, Heap X.w0 (items (L ++ [A, B]) :: items [] :: S0) w3 → Heap X.w0 (A :: (L ++ (B :: S0))) w3 := by
            intro L A B h
            have h1 : Heap X.w0 (items [] :: ((L ++ [A, B]) ++ S0)) w3 := by
              refine (h.unitems).perm ?_
              exact List.perm_middle
            have h2 := h1.unitems
            simp only [List.nil_append] at h2
            refine h2.perm ?_
            rw [List.append_assoc]
            exact List.perm_middle
          rcases hor with ⟨t', h3⟩ | ⟨n, t', hn, h3⟩
          · have h4 := drop_fr h3
            have hl := h4.blk_at 0 rfl
            refine ⟨none, w3.putObj (w.heap.size + 1) (.loop { F.rc .ready none with state := .exhausted }), ?_, ?_⟩
            · have := run_endLoop (P := X.P) hl (by rw [F.state]; simp)
              rw [F.pending] at this; exact this
            · refine hdone w.heap.size t' _ _ ⟨ha.size, by rw [← ha.defers]; rfl, ha.get⟩ ?_
              have h5 := h4.set 0 (b := w.heap.size + 1) rfl (.loop { F.rc .ready none with state := .exhausted }) (w' := w3.putObj (w.heap.size + 1) (.loop { F.rc .ready none with state := .exhausted })) rfl rfl rfl rfl
              exact h5.sub (List.sublist_cons_self ..)
          · have h4 := drop_fr h3
            have hl := h4.blk_at 0 rfl
            refine ⟨some jc, w3.putObj (w.heap.size + 1) (.loop { F.rc .done (some jc) with state := .exhausted }), ?_, ?_⟩
            · have := run_endLoop (P := X.P) hl (by rw [F.state]; simp)
              rw [F.pending] at this; exact this
            · refine hjump w.heap.size n t' hn _ _ ⟨ha.size, by rw [← ha.defers]; rfl, ha.get⟩ ?_
              have h5 := h4.set 0 (b := w.heap.size + 1) rfl (.loop { F.rc .done (some jc) with state := .exhausted }) (w' := w3.putObj (w.heap.size + 1) (.loop { F.rc .done (some jc) with state := .exhausted })) rfl rfl rfl rfl
              exact h5.sub (List.sublist_cons_self ..)
        · intro n t w2 fr hn h2
          have regroup : ∀ {L : List Item} {A B : Item} {w : World}, Heap X.w0 (items (L ++ [A, B]) :: fr :: S0) w ↔ Heap X.w0 (L ++ (A :: B :: fr :: S0)) w := by
            intro L A B w
            constructor
            · intro h
              have := h.unitems
              rwa [List.append_assoc] at this
            · intro h
              refine Heap.toItems ?_
              rwa [List.append_assoc]
          have h3 := regroup.1 h2
          have hl : w2.heap[w.heap.size + 1]? = some (.loop (F.rc .ready none)) := h3.ok (blk (w.heap.size + 1) (.loop (F.rc .ready none))) (by simp)
          have hxn : (xs.getD n []).toArray.size = ps'.size := by
            rw [List.getD_eq_getElem?_getD, List.getElem?_eq_getElem hn]
            simpa using hlen _ (List.getElem_mem hn)
          refine ⟨fn, _, assign, body, run_yield hl hxn, ?_⟩
          refine RoundIn.mono (R := RoundTo X.w0 F (w.heap.size + 1) w.heap.size J Jx jc n fr S0) ?_ ?_
          · refine roundIn_of_wpIn trivial ?_
            have hk := knows_setPs ps'.toList (xs.getD n []) E { a with defers := [] } ⟨ha.size, rfl, ha.get⟩ (by
              intro p hp
              have := List.all_eq_true.1 hps p hp
              simpa using this)
            have hz : (ps'.zip (xs.getD n []).toArray).foldl (fun (tmps : Array Value) (x : Tmp × Value) => tmps.setIfInBounds x.1 x.2) a.tmps = ((ps'.toList.zip (xs.getD n [])).foldl (fun t (x : Nat × Value) => t.setIfInBounds x.1 x.2) a.tmps) := by
              rw [← Array.foldl_toList, Array.toList_zip]
            have hev := hround F (w.heap.size + 1) w.heap.size n t fr hn _ w2 hk h3
            simp only [cl, BeginTo, cr] at hev
            have hz' : (Array.foldl (fun tmps x => match x with | (t, a) => Array.setIfInBounds tmps t a) (F.rc LoopState.ready none).tmps ((F.rc LoopState.ready none).params.zip (xs.getD n []).toArray)) = ((ps'.toList.zip (xs.getD n [])).foldl (fun t (x : Nat × Value) => t.setIfInBounds x.1 x.2) a.tmps) := hz
            rw [hz']
            exact hev
          · rintro e w' (⟨rfl, t', h⟩ | ⟨rfl, t', h⟩)
            · exact .inl ⟨rfl, t', regroup.2 h⟩
            · exact .inr ⟨rfl, t', regroup.2 h⟩
    | _ => cases hs
  | _ => cases hs

/-- the round begins: on with its body -/
theorem at_begin {c : Code} {l : Nat} {F : LoopFam} {R : Ending → World → Prop} {E' : Env} (j : Nat) (js : List Nat) (hr : X.r = some l) (hj : S[j]? = some (blk l (.loop (F.rc .ready none)))) (hs : Sub E' E) (hn : js.Nodup)
    (h : Ev X (cr c) E' (pick (S.set j (blk l (.loop (F.rc .busy none)))) js) (roundPost X.P l R)) : At X .normal E S (BeginTo X.P l c R) := by
  intro a w ha hw
  have hl := hw.blk_at j hj
  refine ⟨_, run_beginRound hl (F.state _ _), ?_⟩
  rw [F.turn1]
  have h1 := hw.set j hj (.loop (F.rc .busy none)) (w' := w.putObj l (.loop (F.rc .busy none))) rfl rfl rfl rfl
  have := h a _ (ha.sub hs) (h1.pick js hn)
  rw [hr] at this
  exact this
/-- the round ends: on with the next one -/
theorem at_roundEnd {l Db : Nat} {F : LoopFam} {T : Type} {J Jx : Nat → T → List Item} {jc : Code} {n : Nat} {fr : Item} {S0 : List Item} (t' : T) (j : Nat) (hj : S[j]? = some (blk l (.loop (F.rc .busy none))))
    (h : ∀ w, Heap X.w0 (S.set j (blk l (.loop (F.rc .ready none)))) w → Heap X.w0 (J (n + 1) t' ++ (blk l (.loop (F.rc .ready none)) :: blk Db (.deferred (some [])) :: fr :: S0)) w) :
    At X .normal E S (roundPost X.P l (RoundTo X.w0 F l Db J Jx jc n fr S0)) := by
  intro a w ha hw
  have hl := hw.blk_at j hj
  have hrun := run_endRound (P := X.P) none hl
  refine ⟨_, _, hrun, .inl ⟨rfl, t', h _ ?_⟩⟩
  simp only [Option.isNone_none, if_true]
  rw [F.turn]
  exact hw.set j hj (.loop (F.rc .ready none)) rfl rfl rfl rfl
/-- the round ends with a return -/
theorem at_roundRet {l Db : Nat} {F : LoopFam} {T : Type} {J Jx : Nat → T → List Item} {n : Nat} {fr : Item} {S0 : List Item} (t' : T) (j : Nat) (hj : S[j]? = some (blk l (.loop (F.rc .busy none))))
    (h : ∀ w, Heap X.w0 (S.set j (blk l (.loop (F.rc .done (some .ret))))) w → Heap X.w0 (Jx (n + 1) t' ++ (blk l (.loop (F.rc .done (some .ret))) :: blk Db (.deferred (some [])) :: fr :: S0)) w) :
    At X .ret E S (roundPost X.P l (RoundTo X.w0 F l Db J Jx .ret n fr S0)) := by
  intro a w ha hw
  have hl := hw.blk_at j hj
  have hrun := run_endRound (P := X.P) (some .ret) hl
  refine ⟨_, _, hrun, .inr ⟨rfl, t', h _ ?_⟩⟩
  simp only [Option.isNone_some, Bool.false_eq_true, if_false]
  rw [F.turn]
  exact hw.set j hj (.loop (F.rc .done (some .ret))) rfl rfl rfl rfl
/-- the round ends with a break out of the loop -/
theorem at_roundExit {l Db id : Nat} {F : LoopFam} {T : Type} {J Jx : Nat → T → List Item} {n : Nat} {fr : Item} {S0 : List Item} (t' : T) (j : Nat) (hj : S[j]? = some (blk l (.loop (F.rc .busy none))))
    (h : ∀ w, Heap X.w0 (S.set j (blk l (.loop (F.rc .done (some (.exit id)))))) w → Heap X.w0 (Jx (n + 1) t' ++ (blk l (.loop (F.rc .done (some (.exit id)))) :: blk Db (.deferred (some [])) :: fr :: S0)) w) :
    At X (.exit id) E S (roundPost X.P l (RoundTo X.w0 F l Db J Jx (.exit id) n fr S0)) := by
  intro a w ha hw
  have hl := hw.blk_at j hj
  have hrun := run_endRound (P := X.P) (some (.exit id)) hl
  refine ⟨_, _, hrun, .inr ⟨rfl, t', h _ ?_⟩⟩
  simp only [Option.isNone_some, Bool.false_eq_true, if_false]
  rw [F.turn]
  exact hw.set j hj (.loop (F.rc .done (some (.exit id)))) rfl rfl rfl rfl
end
end Go.Proofs.Ytfhhggcdmgjbcaa.Sx

namespace Go.Proofs.Ytfhhggcdmgjbcaa.Sx
open Go Go.RowKit

/-- something that is known, and no memory -/
def fact (φ : Prop) : Item := ⟨fun _ => False, fun _ => φ, fun _ _ _ h => h⟩

section
variable {X : Cx} {ops : Array Oper} {i k : Nat} {E : Env} {S : List Item} {Q : Exit → Act → World → Prop} {c : Code}

theorem Ev.fact {φ : Prop} (h : fact φ ∈ S) (h2 : φ → Ev X c E S Q) : Ev X c E S Q := fun a w ha hw => h2 (hw.ok _ h) a w ha hw
theorem At.fact {e : Exit} {φ : Prop} (h : fact φ ∈ S) (h2 : φ → At X e E S Q) : At X e E S Q := fun a w ha hw => h2 (hw.ok _ h) a w ha hw
theorem Rg.fact {φ : Prop} (h : fact φ ∈ S) (h2 : φ → Rg X ops i k E S Q) : Rg X ops i k E S Q := fun a w ha hw => h2 (hw.ok _ h) a w ha hw
theorem Heap.addFact {w0 w : World} {S : List Item} {φ : Prop} (h : Heap w0 S w) (hφ : φ) : Heap w0 (Sx.fact φ :: S) w := by
  refine ⟨h.os, h.tape, h.output, fun it hit => ?_, fun it hit k hk => ?_, List.Pairwise.cons (fun x _ k hk => hk.elim) h.apart⟩
  · rcases List.mem_cons.1 hit with rfl | hit
    · exact hφ
    · exact h.ok it hit
  · rcases List.mem_cons.1 hit with rfl | hit
    · exact hk.elim
    · exact h.low it hit k hk
theorem Heap.bot {w0 w : World} {S : List Item} {φ : Prop} (hw : Heap w0 S w) (h : Sx.fact φ ∈ S) : φ := hw.ok _ h

/-- on with the code that stands next, what is known written out -/
theorem at_codeS {e : Exit} {Q' : Exit → Act → World → Prop} (js : List Nat) (E' : Env) (S' : List Item) (hs : Sub E' E) (hj : pick S js = S') (hn : js.Nodup) (hQ : ∀ a w, c.wpIn (fence X.r) 0 X.P Q' a w → Q e a w) (h : Ev X c E' S' Q') : At X e E S Q :=
  At.code js hs hn hQ (hj ▸ h)
/-- what is asked at the end, under a name -/
theorem At.via {e : Exit} {Q Q' : Exit → Act → World → Prop} (hQ : ∀ e a w, Q' e a w → Q e a w) (h : At X e E S Q') : At X e E S Q := fun a w ha hw => hQ _ _ _ (h a w ha hw)
theorem calls_ofQ {P : Program} {f : FuncId} {fn : Func} {args : List Value} {w w0 : World} {R : Ending → World → Prop} (S : List Item) (hf : P.funcs[f]? = some fn) (hb : fn.body.isSome = true) (hn : Nat.ble args.length fn.ntmps = true)
    (hS : Heap w0 S w) (h : ∀ Q : Exit → Act → World → Prop, (∀ e a w, bodyPost P fn R e a w → Q e a w) → Ev ⟨none, P, fn.ntmps, [], w0⟩ (fbody fn) (envOf args 0) S Q) : Calls P f args.toArray w R :=
  calls_of_heap S hf hb hn hS (h _ fun _ _ _ h => h)
theorem calls_ofM {P : Program} {f : FuncId} {fn : Func} {args : List Value} {w w0 : World} {R : Ending → World → Prop} (S : List Item) (hf : P.funcs[f]? = some fn) (hb : fn.body.isSome = true) (hn : Nat.ble args.length fn.ntmps = true)
    (hS : Heap w0 S w) (h : ∀ Q : Exit → Act → World → Prop, (∀ e a w, bodyPostM (fence none) 0 P fn R e a w → Q e a w) → Ev ⟨none, P, fn.ntmps, [], w0⟩ (fbody fn) (envOf args 0) S Q) : Calls P f args.toArray w R :=
  calls_of_marks S hf hb hn hS (h _ fun _ _ _ h => h)
theorem at_beginQ {c : Code} {l : Nat} {F : LoopFam} {R : Ending → World → Prop} {E' : Env} (j : Nat) (js : List Nat) (hr : X.r = some l) (hj : S[j]? = some (blk l (.loop (F.rc .ready none)))) (hs : Sub E' E) (hn : js.Nodup)
    (h : ∀ Q : Exit → Act → World → Prop, (∀ e a w, roundPost X.P l R e a w → Q e a w) → Ev X (cr c) E' (pick (S.set j (blk l (.loop (F.rc .busy none)))) js) Q) : At X .normal E S (BeginTo X.P l c R) :=
  at_begin j js hr hj hs hn (h _ fun _ _ _ h => h)

/-! ### What a call makes that its caller goes on with -/
def New (w : World) (L : List Item) (w' : World) : Prop := Heap w (L ++ [base w (Low w)]) w'
theorem New.below {w w' : World} {L : List Item} (h : New w L w') : Below w.heap.size w w' :=
  Heap.base_below h L.length (by simp)
theorem Heap.grow {w0 w w' : World} {S L : List Item} (h : Heap w0 S w) (hn : New w L w') : Heap w0 (L ++ S) w' := by
  have h' := h.below hn.below
  obtain ⟨h1, _, h3⟩ := List.pairwise_append.1 hn.apart
  refine ⟨h'.os, h'.tape, h'.output, fun it hit => ?_, fun it hit k hk => ?_, ?_⟩
  · rcases List.mem_append.1 hit with hit | hit
    · exact hn.ok it (List.mem_append_left _ hit)
    · exact h'.ok it hit
  · rcases List.mem_append.1 hit with hit | hit
    · exact hn.low it (List.mem_append_left _ hit) k hk
    · exact h'.low it hit k hk
  · refine List.pairwise_append.2 ⟨h1, h'.apart, fun x hx y hy k hk hk' => ?_⟩
    exact h3 x hx _ (List.mem_singleton.2 rfl) k hk (h.low y hy k hk')
/-- what a call comes to: a value and memory of its own -/
def RetN {T : Type} (w : World) (φ : T → Prop) (v : T → Value) (L : T → List Item) (e : Ending) (w' : World) : Prop := ∃ t, φ t ∧ e = .returned (v t) ∧ New w (L t) w'
theorem rg_callN {T : Type} {d : Option Nat} {f : FuncId} {fo : Operand} {caps : Array Value} {xs : Array Operand} {ts : Array TypeId} {g : Option (Nat × Bool)} {vs : List Value} {φ : T → Prop} {v : T → Value} {L : T → List Item}
    (ho : opAt ops i = some (d, .call { callee := .value fo, args := xs, argTypes := ts }, g))
    (hc : (true && (d.all fun d => Nat.blt d X.N) && Nat.blt i k && (says ops E g == some true)) = true) (hfo : E.op fo = some (.func (.func f) #[] caps)) (hf : entered X.P f = true) (hx : Env.opsOf E xs.toList = some vs)
    (hcall : ∀ w, Heap X.w0 S w → Calls X.P f (vs.toArray ++ caps) w (RetN w φ v L)) (h : ∀ t, φ t → Rg X ops (i + 1) k (putE d (v t) E) (L t ++ S) Q) : Rg X ops i k E S Q :=
  rg_call_any ho hc hfo hf hx v (fun t => L t ++ S) φ (fun w hw => (hcall w hw).mono fun e w' ⟨t, h1, h2, h3⟩ => ⟨t, h1, h2, hw.grow h3⟩) h
/-- a call of a function value that only makes memory of its own -/
theorem rg_callD {d : Option Nat} {f : FuncId} {fo : Operand} {caps : Array Value} {xs : Array Operand} {ts : Array TypeId} {g : Option (Nat × Bool)} {vs : List Value} {v : Value} (ho : opAt ops i = some (d, .call { callee := .value fo, args := xs, argTypes := ts }, g))
    (hc : (true && (d.all fun d => Nat.blt d X.N) && Nat.blt i k && (says ops E g == some true)) = true) (hfo : E.op fo = some (.func (.func f) #[] caps)) (hf : entered X.P f = true) (hx : Env.opsOf E xs.toList = some vs)
    (hcall : ∀ w, Heap X.w0 S w → Calls X.P f (vs.toArray ++ caps) w (Ret w v)) (h : Rg X ops (i + 1) k (putE d v E) S Q) : Rg X ops i k E S Q :=
  rg_call_any (T := Unit) ho hc hfo hf hx (fun _ => v) (fun _ => S) (fun _ => True) (fun w hw => (hcall w hw).mono fun e w' ⟨he, hb⟩ => ⟨(), trivial, he, hw.below hb⟩) (fun _ _ => h)

/-! ### The end, by a result's cell, or over marks -/
def readRV (a : Act) : ResultVar → Sem Value
  | .tmp t => pure (a.tmps.getD t undef)
  | .cell b t => do loadVar t (← asAddr (a.tmps.getD b undef))
def Reads (X : Cx) (E : Env) (S : List Item) (r : ResultVar) (v : Value) : Prop := ∀ a w, Knows X.N X.D E a → Heap X.w0 S w → (readRV a r).run X.P w = .ok v w
def Reads' (X : Cx) (E : Env) (S : List Item) (r : ResultVar) (v : Value) : Prop := ∀ D a w, Knows X.N D E a → Heap X.w0 S w → (readRV a r).run X.P w = .ok v w
theorem reads_tmp {t : Nat} {v : Value} (h : E.get t = some v) : Reads' X E S (.tmp t) v := by
  intro D a w ha _
  have := ha.get t v h
  simp [readRV, this]
theorem reads_cell {b o t T : Nat} {cs : Array Value} {v : Value} (j : Nat) (h : E.get b = some (.pointer (some ⟨o, 0, none⟩))) (hj : S[j]? = some (blk o (.cells cs T (0, 0)))) (ht : oneT X.P t = true) (hv : cs[0]? = some v) : Reads' X E S (.cell b t) v := by
  intro D a w ha hw
  have h1 := ha.get b _ h
  have h2 := hw.blk_at j hj
  have h3 : w.cell? ⟨o, 0, none⟩ = some v := by rw [cell_blk h2]; exact hv
  simp only [readRV, Sem.run_bind]
  simp [h1, asAddr, run_loadVar_one ht h3]

def LeaveAt (X : Cx) (fn : Func) (R : Ending → World → Prop) (D : List Deferred) (E : Env) (S : List Item) : Prop :=
  ∀ D' a w, Knows X.N D' E a → Heap X.w0 S w → LeavesInM (fence none) 0 X.P fn a.tmps R D .returning w
theorem LeaveAt.mark {fn : Func} {R : Ending → World → Prop} {D : List Deferred} {b : Nat} (j : Nat) (hj : S[j]? = some (blk b (.deferred (some [])))) (h : LeaveAt X fn R D E (S.set j (blk b (.deferred none)))) :
    LeaveAt X fn R ({ target := .collected b, args := #[] } :: D) E S := by
  intro D' a w ha hw
  refine ⟨by simp, .inl ⟨b, _, rfl, run_takeDeferred (hw.blk_at j hj), h D' a _ ha ?_⟩⟩
  exact hw.set j hj (.deferred none) rfl rfl rfl rfl
theorem LeaveAt.one {fn : Func} {R : Ending → World → Prop} {r : ResultVar} {v : Value} (hr : fn.results = #[r]) (hv : Reads' X E S r v) (h : ∀ w, Heap X.w0 S w → R (.returned v) w) : LeaveAt X fn R [] E S := by
  intro D' a w ha hw
  refine ⟨v, ?_, h w hw⟩
  have := hv D' a w ha hw
  unfold results
  rw [hr]
  cases r with
  | tmp t => simp only [readRV] at this; simp at this ⊢; exact this
  | cell b t => simp only [readRV, Sem.run_bind, Array.getD_eq_getD_getElem?] at this; simpa [Sem.run_bind] using this
theorem LeaveAt.none {fn : Func} {R : Ending → World → Prop} (hr : fn.results = #[]) (h : ∀ w, Heap X.w0 S w → R (.returned (.tuple #[])) w) : LeaveAt X fn R [] E S := by
  intro D' a w ha hw
  exact ⟨_, results_none hr _ _ _, h w hw⟩
theorem At.leave {fn : Func} {R : Ending → World → Prop} (h : LeaveAt X fn R X.D E S) : At X .ret E S (bodyPostM (fence none) 0 X.P fn R) := by
  intro a w ha hw
  show LeavesInM (fence none) 0 X.P fn a.tmps R a.defers .returning w
  rw [ha.defers]
  exact h _ a w ha hw
theorem At.leaveN {fn : Func} {R : Ending → World → Prop} (h : LeaveAt X fn R X.D E S) : At X .normal E S (bodyPostM (fence none) 0 X.P fn R) := by
  intro a w ha hw
  show LeavesInM (fence none) 0 X.P fn a.tmps R a.defers .returning w
  rw [ha.defers]
  exact h _ a w ha hw
/-- a result's cell, where nothing is deferred -/
theorem At.retCell {fn : Func} {R : Ending → World → Prop} {r : ResultVar} {v : Value} (hr : fn.results = #[r]) (hD : X.D = []) (hv : Reads' X E S r v) (h : ∀ w, Heap X.w0 S w → R (.returned v) w) :
    At X .ret E S (bodyPost X.P fn R) := by
  intro a w ha hw
  obtain ⟨u, h1, h2⟩ := LeaveAt.one hr hv h _ a w ha hw
  exact ⟨by rw [ha.defers, hD], u, h1, h2⟩
/-- no result -/
theorem At.ret0 {fn : Func} {R : Ending → World → Prop} (hr : fn.results = #[]) (hD : X.D = []) (h : ∀ w, Heap X.w0 S w → R (.returned (.tuple #[])) w) : At X .ret E S (bodyPost X.P fn R) := by
  intro a w ha hw
  exact ⟨by rw [ha.defers, hD], _, results_none hr _ _ _, h w hw⟩
theorem At.norm0 {fn : Func} {R : Ending → World → Prop} (hr : fn.results = #[]) (hD : X.D = []) (h : ∀ w, Heap X.w0 S w → R (.returned (.tuple #[])) w) : At X .normal E S (bodyPost X.P fn R) := by
  intro a w ha hw
  exact ⟨by rw [ha.defers, hD], _, results_none hr _ _ _, h w hw⟩

/-! ### Bytes -/
def bv (xs : List Int) : List Value := xs.map (.int .u8 ·)
theorem own_bytes {w0 w : World} {S : List Item} (hw : Heap w0 S w) (j : Nat) {p : Option Addr} {n c : Nat} {xs : List Int} (hj : S[j]? = some (own 5 1 p n c (bv xs))) : BytesAt (Low w) w p xs := by
  rcases hw.at_ j hj with ⟨h1, h2, _, h4⟩ | ⟨b, rest, h1, h2, h3, _⟩
  · have : xs = [] := by simpa [bv] using h4
    subst this
    exact ⟨fun h => by simp at h, fun _ _ h => by simp at h, fun _ _ _ i h => by simp at h⟩
  · refine ⟨fun _ => ⟨b, 0, h1⟩, fun b' o' _ hp => ?_, fun b' o' hp i hi jj hjj => ?_⟩
    · rw [h1] at hp
      simp only [Option.some.injEq, Addr.mk.injEq] at hp
      have := hw.lt j hj (k := b) h1
      show b' < _
      omega
    · rw [h1] at hp
      simp only [Option.some.injEq, Addr.mk.injEq, and_true] at hp
      obtain ⟨rfl, rfl⟩ := hp
      rw [cell_blk h2, show 0 + i * 1 + jj = i from by omega]
      simp only [List.getElem?_toArray]
      rw [List.getElem?_append_left (by simpa [bv] using hi)]
      simp [bv, List.getD_eq_getElem?_getD, List.getElem?_eq_getElem hi]
theorem own_length {w0 w : World} {S : List Item} (hw : Heap w0 S w) (j : Nat) {T sz : Nat} {p : Option Addr} {n c : Nat} {xs : List Value} (hj : S[j]? = some (own T sz p n c xs)) : xs.length = n * sz := by
  rcases hw.at_ j hj with ⟨_, h2, _, h4⟩ | ⟨b, rest, h1, h2, h3, _⟩
  · simp [h2, h4]
  · exact h3
end
end Go.Proofs.Ytfhhggcdmgjbcaa.Sx

namespace Go.Proofs.Ytfhhggcdmgjbcaa.Sx
open Go Go.RowKit

section
variable {X : Cx} {ops : Array Oper} {i k : Nat} {E : Env} {S : List Item} {Q : Exit → Act → World → Prop} {c : Code}

/-! ### Append of so many zeroes to nil -/
theorem rg_appendZ {d : Nat} {t e : TypeId} {x y : Operand} {ty : TypeId} {g : Option (Nat × Bool)} {m : Int} {zv : Value} {q : IntKind}
    (ho : opAt ops i = some (some d, .call { callee := .builtin .append, args := #[x, y], argTypes := #[t, ty] }, g))
    (hc : (true && Nat.blt d X.N && Nat.blt i k && (says ops E g == some true)) = true) (hx : E.op x = some (.slice none 0 0)) (hy : E.op y = some (.int .i64 m))
    (he : elemT X.P t = some (e, 1)) (hz : zeroT X.P e = some zv) (hzs : zv.cells.size = 1) (hty : X.P.underlying ty = some (.int q)) (h0 : 0 ≤ m) (h1 : m ≤ 4294967296)
    (hb : bytesT X.P e ≤ 4096) (h : ∀ p' c', m.toNat ≤ c' → Rg X ops (i + 1) k ((d, .slice p' m.toNat c') :: E) (own e 1 p' 0 c' [] :: S) Q) : Rg X ops i k E S Q := by
  refine Rg.value ho hc fun ac w o ha hw hop => ?_
  unfold elemT at he
  split at he
  · rename_i e' hu
    cases hs : szT X.P e' with
    | none => rw [hs] at he; cases he
    | some qq =>
      rw [hs] at he
      simp only [Option.map_some, Option.some.injEq, Prod.mk.injEq] at he
      obtain ⟨rfl, rfl⟩ := he
      have hti : ∃ inf, X.P.info? e' = some inf ∧ inf.bytes = bytesT X.P e' := by
        unfold szT at hs
        cases hi : X.P.info? e' with
        | none => rw [hi] at hs; cases hs
        | some inf => exact ⟨inf, rfl, by simp [bytesT, hi]⟩
      obtain ⟨inf, hinf, hbytes⟩ := hti
      have hwrap : IntKind.i64.wrap m = m := in_i64 (by omega) (by omega)
      have hneg : ¬ m < 0 := by omega
      have hasI : ∀ w, (asInt (.int .i64 m)).run X.P w = .ok m w := fun w => by simp [asInt, asIntOf]
      have hrun0 : ∀ r, (Builtin.append_ #[t, ty] o.type #[.slice none 0 0, .int .i64 m]).run X.P w = r → (execOp ac.eval o).run X.P w = r.andThen fun v w => .ok (.value v) w := by
        intro r hr
        unfold execOp; rw [hop]
        simp [resolve, invoke, builtin, ha.eval hx, ha.eval hy, hr]
      have hbm : ¬ (m * ((inf.bytes : Nat) : Int) > 2 ^ 48) := by
        have h2 : m * ((inf.bytes : Nat) : Int) ≤ 4294967296 * 4096 := Int.mul_le_mul h1 (by omega) (by omega) (by omega)
        omega
      have hbm' : ¬ (281474976710656 < m * ((inf.bytes : Nat) : Int)) := by simpa using hbm
      obtain ⟨n, hn⟩ : ∃ n : Nat, m.toNat = n := ⟨_, rfl⟩
      rw [hn] at h
      by_cases hz0 : n = 0
      · subst hz0
        refine ⟨.slice none 0 0, w, _, ?_, ?_, h none 0 (Nat.le_refl _)⟩
        · rw [hrun0 (.ok (.slice none 0 0) w)]
          · rfl
          · unfold Builtin.append_
            simp [run_underlying hu, run_szOf hs, run_underlying hty, hasI, hwrap, hneg, hbm', typeInfo_run hinf, hn]
            intro hh; omega
        · refine hw.newI _ rfl rfl rfl (Nat.le_refl _) (fun q' hq' => ?_) (.inl ⟨rfl, rfl, rfl, rfl⟩) (fun _ _ => rfl)
          have : (none : Option Addr) = some ⟨q', 0, none⟩ := hq'
          cases this
      · have hn64 : ¬ (((0 + n : Nat) : Int) > IntKind.i64.max) := by
          simp only [IntKind.max]
          simp [IntKind.bits, IntKind.signed]
          omega
        have hlim : ¬ (Builtin.nextslicecap (0 + n) 0 * inf.bytes > 2 ^ 48) := by
          have h1 := nextcap_le (0 + n) 0 (by omega)
          have h2 : Builtin.nextslicecap (0 + n) 0 * inf.bytes ≤ (2 * (0 + n) + 192) * inf.bytes := Nat.mul_le_mul_right _ h1
          have h3 : (2 * (0 + n) + 192) * inf.bytes ≤ 8589934784 * 4096 := Nat.mul_le_mul (by omega) (by omega)
          omega
        obtain ⟨cap', hcq⟩ : ∃ cap', cap' = Question.cut (.appendCap (0 + n) 0 e') (w.tape w.drawn (.appendCap (0 + n) 0 e')) := ⟨_, rfl⟩
        have hcle : n ≤ cap' := by
          rw [hcq]; simp only [Question.cut]; omega
        let cs : Array Value := Builtin.zeroCells zv.cells n ++ Builtin.zeroCells zv.cells (cap' - (0 + n))
        have hcs : cs.size = cap' := by
          simp only [cs, Array.size_append, zeroCells_length, hzs]; omega
        refine ⟨.slice (some ⟨w.heap.size, 0, none⟩) n cap', { w with heap := w.heap.push (.cells cs e' (0, 0)), drawn := w.drawn + 1 }, _, ?_, ?_, h (some ⟨w.heap.size, 0, none⟩) cap' hcle⟩
        · rw [hrun0 (.ok (.slice (some ⟨w.heap.size, 0, none⟩) n cap') { w with heap := w.heap.push (.cells cs e' (0, 0)), drawn := w.drawn + 1 })]
          · rfl
          · unfold Builtin.append_
            have hch : (choose (.appendCap (0 + n) 0 e')).run X.P w = .ok cap' { w with drawn := w.drawn + 1 } := by
              rw [run_choose, hcq]; simp [Question.forced]
            have hnf : ¬ (0 + n ≤ 0) := by omega
            have hn0 : ¬ (n * 1 = 0) := by omega
            simp only [Sem.run_bind, Sem.run_pure, Result.andThen_ok, run_underlying hu, run_szOf hs, run_underlying hty, List.getElem?_toArray, List.getElem?_cons_zero, List.getElem?_cons_succ, hasI, hwrap, hneg, typeInfo_run hinf, if_true, if_false, Sem.run_ite, hn, hnf, hn0]
            rw [if_neg (by simpa using hbm)]
            rw [if_neg (by intro hh; exact hn64 hh.1), if_neg hlim]
            simp only [Sem.run_bind, hch, Result.andThen_ok, run_askRoom, Builtin.firstCells, run_zero hz, newRow, run_newObj, Sem.run_pure, Bool.not_true, Bool.false_eq_true, if_false]
            simp [cs]
        · have hd : Heap X.w0 S { w with drawn := w.drawn + 1 } := ⟨hw.os, hw.tape, hw.output, fun it hit => it.stable w _ (fun _ _ => rfl) (hw.ok it hit), hw.low, hw.apart⟩
          refine hd.newI _ rfl rfl rfl (by simp) (fun q' hq' => ?_) (.inr ⟨w.heap.size, cs.toList, rfl, by simp, by simp, by simp [hcs]⟩) (fun q' hq1 => ?_)
          · have hq2 : (some (⟨w.heap.size, 0, none⟩ : Addr)) = some ⟨q', 0, none⟩ := hq'
            simp only [Option.some.injEq, Addr.mk.injEq, and_true] at hq2
            subst hq2; simp
          · show (w.heap.push _)[q']? = _
            rw [Array.getElem?_push, if_neg (by have : q' < w.heap.size := hq1; omega)]
  · cases he

/-! ### What is appended -/
theorem firstCells_blk {w0 w : World} {S : List Item} (hw : Heap w0 S w) {P : Program} (j : Nat) {T : TypeId} {sz b m : Nat} {cs : Array Value} (hj : S[j]? = some (blk b (.cells cs T (0, 0)))) (hl : cs.toList.length = m * sz) {n' c' : Nat} :
    (Builtin.firstCells sz m (.slice (some ⟨b, 0, none⟩) n' c')).run P w = .ok cs.toList.toArray w := by
  refine firstCells_of (b := b) (o := 0) hl (fun _ => rfl) fun q _ => ?_
  rw [Nat.zero_add, cell_blk (hw.blk_at j hj)]
  simp
theorem firstCells_bytes {F : Nat → Prop} {w : World} {P : Program} {p : Option Addr} {xs : List Int} (h : BytesAt F w p xs) {n' c' : Nat} :
    (Builtin.firstCells 1 xs.length (.slice p n' c')).run P w = .ok (bv xs).toArray w := by
  by_cases h0 : 0 < xs.length
  · obtain ⟨b, o, hp⟩ := h.adr h0
    refine firstCells_of (b := b) (o := o) (by simp [bv]) (fun _ => hp) fun q hq => ?_
    have hq' : q < xs.length := by simpa [bv] using hq
    have := h.cell b o hp q hq' 0 (by omega)
    rw [show o + q * 1 + 0 = o + q from by omega] at this
    rw [this]
    simp [bv, List.getD_eq_getElem?_getD, List.getElem?_eq_getElem hq']
  · have : xs = [] := by
      cases xs with
      | nil => rfl
      | cons a l => simp at h0
    subst this
    refine firstCells_of (b := 0) (o := 0) (by simp [bv]) (fun h => by simp at h) fun q hq => by simp [bv] at hq
theorem bv_one (xs : List Int) : (bv xs).all (·.oneCell') = true := by
  induction xs with
  | nil => rfl
  | cons x xs ih => simp only [bv, List.map_cons, List.all_cons] at ih ⊢; rw [ih]; rfl
theorem bv_length (xs : List Int) : (bv xs).length = xs.length := by simp [bv]
theorem bv_app (xs ys : List Int) : bv xs ++ bv ys = bv (xs ++ ys) := by simp [bv]

/-! ### Parts of rows -/
theorem BytesAt.drop {F : Nat → Prop} {w : World} {p : Option Addr} {xs : List Int} (h : BytesAt F w p xs) {c l : Nat} (hc : xs.length ≤ c) : BytesAt F w (subP p c l 1) (xs.drop l) := by
  have hlen : (xs.drop l).length = xs.length - l := List.length_drop
  refine ⟨fun h0 => ?_, fun b o h0 hp => ?_, fun b o hp i hi j hj => ?_⟩
  · obtain ⟨b, o, hp⟩ := h.adr (by omega)
    exact ⟨b, o + l * 1, by subst hp; simp [subP, show c ≠ l by omega, add_mk]⟩
  · obtain ⟨b', o', hp'⟩ := h.adr (by omega)
    subst hp'
    simp only [subP, show c ≠ l by omega, if_false, Option.map_some, Option.some.injEq, add_mk, Addr.mk.injEq] at hp
    rw [← hp.1]; exact h.foot b' o' (by omega) rfl
  · obtain ⟨b', o', hp'⟩ := h.adr (by omega)
    subst hp'
    simp only [subP, show c ≠ l by omega, if_false, Option.map_some, Option.some.injEq, add_mk, Addr.mk.injEq] at hp
    obtain ⟨rfl, rfl, _⟩ := hp
    have := h.cell b' o' rfl (l + i) (by omega) 0 (by omega)
    rw [show o' + l * 1 + i * 1 + j = o' + (l + i) * 1 + 0 by omega, this]
    simp [List.getD_eq_getElem?_getD, List.getElem?_drop]
theorem BytesAt.take {F : Nat → Prop} {w : World} {p : Option Addr} {xs : List Int} (h : BytesAt F w p xs) {l : Nat} (hl : l ≤ xs.length) : BytesAt F w p (xs.take l) := by
  have hlen : (xs.take l).length = l := by rw [List.length_take]; omega
  refine ⟨fun h0 => h.adr (by omega), fun b o h0 hp => h.foot b o (by omega) hp, fun b o hp i hi j hj => ?_⟩
  rw [h.cell b o hp i (by omega) j hj]
  simp [List.getD_eq_getElem?_getD, List.getElem?_take, show i < l by omega]

/-! ### An array out of bytes -/
def arrOf (xs : List Int) (n : Nat) : Array Value := ((List.range n).map fun i => Value.int .u8 (xs.getD i 0)).toArray
theorem pv_load_agg_bytes {t : TypeId} {x : Operand} {p : Option Addr} {m : Nat} {xs : List Int} (hx : E.op x = some (.pointer p)) (h0 : 0 < m) (hm : m ≤ xs.length) (ht : isAggT X.P t = true) (hs : szT X.P t = some m)
    (h : ∀ w, Heap X.w0 S w → BytesAt (Low w) w p xs) : PV X E S (.load t x) (.agg (arrOf xs m)) := by
  intro a w o ha hw ho
  have hB := h w hw
  obtain ⟨b, of, hp⟩ := hB.adr (by omega)
  subst hp
  refine pv_load_agg (E := E) (S := S) hx (cs := arrOf xs m) ht (by simpa [arrOf] using hs) (fun w hw j hj => ?_) a w o ha hw ho
  have hj' : j < m := by simpa [arrOf] using hj
  have := (h w hw).cell b of rfl j (by omega) 0 (by omega)
  rw [add_mk]; rw [show of + j * 1 + 0 = of + j from by omega] at this
  rw [this]
  simp [arrOf, hj']

/-! ### A struct's value out of parts -/
theorem pv_build {t : TypeId} {parts : List (Nat × Operand)} {vs : List Value} {fs : List (Nat × Nat)} {zv : Value} {cs : Array Value} (hx : Env.opsOf E (parts.map (·.2)) = some vs)
    (hz : zeroT X.P t = some zv) (hfs : (match X.P.underlying t with | some (.struct fields) => (fields.toList.mapM fun f => (szT X.P f.type).map fun s => (f.offset, s)) | _ => none) = some fs)
    (hf : Instr.fill (fs.toArray[·]?) zv.cells ((parts.map (·.1)).zip vs) = some cs) : PV X E S (.build t parts.toArray) (.agg cs) := by
  intro a w o ha _ ho
  have hparts : (parts.toArray.map fun x => (x.1, a.eval x.2)).toList = (parts.map (·.1)).zip vs := by
    have := ha.evals hx
    rw [← this]
    simp only [List.map_toArray]
    rw [List.map_map, List.zip_map']
    rfl
  split at hfs
  · rename_i fields hu
    have hm : ∀ (l : List Field) (gs : List (Nat × Nat)), (l.mapM fun f => (szT X.P f.type).map fun s => (f.offset, s)) = some gs → (l.mapM (m := Sem) fun f => do pure (f.offset, ← sizeOf f.type)).run X.P w = .ok gs w := by
      intro l
      induction l with
      | nil => intro gs h; simp at h; subst h; simp
      | cons f l ih =>
        intro gs h
        rw [List.mapM_cons] at h
        cases hsz : szT X.P f.type with
        | none => simp [hsz] at h
        | some s =>
          cases hr : (l.mapM fun f => (szT X.P f.type).map fun s => (f.offset, s)) with
          | none => simp [hsz, hr] at h
          | some gs' =>
            simp [hsz, hr] at h
            subst h
            rw [List.mapM_cons]
            have ih' := ih gs' hr
            simp only [bind_pure_comp, pure_bind] at ih' ⊢
            simp [Sem.run_bind, run_szOf hsz, ih']
    have hm' := hm fields.toList fs hfs
    unfold execOp; rw [ho]
    simp only [Instr.build, Sem.run_bind, run_zero hz, Result.andThen_ok, run_underlying hu, hparts]
    rw [Array.mapM_eq_mapM_toList]
    simp only [Sem.run_map, hm', Sem.run_bind, Result.andThen_ok, hf, Sem.run_pure]
  · cases hfs

/-! ### Results -/
theorem reads_cellA {b o t T : Nat} {cs : Array Value} (j : Nat) (h : E.get b = some (.pointer (some ⟨o, 0, none⟩))) (hj : S[j]? = some (blk o (.cells cs T (0, 0)))) (ht : isAggT X.P t = true) (hs : szT X.P t = some cs.size) : Reads' X E S (.cell b t) (.agg cs) := by
  intro D a w ha hw
  have h1 := ha.get b _ h
  have h2 := hw.blk_at j hj
  simp only [readRV, Sem.run_bind]
  have := run_loadVar_agg (P := X.P) (w := w) (t := t) (a := ⟨o, 0, none⟩) (cs := cs) ht hs (fun jj hjj => by rw [add_mk, cell_blk h2, Nat.zero_add])
  simp [h1, asAddr, this]
theorem At.retCell2 {fn : Func} {R : Ending → World → Prop} {r r' : ResultVar} {v v' : Value} (hr : fn.results = #[r, r']) (hD : X.D = []) (hv : Reads' X E S r v) (hv' : Reads' X E S r' v')
    (h : ∀ w, Heap X.w0 S w → R (.returned (.tuple #[v, v'])) w) : At X .ret E S (bodyPost X.P fn R) := by
  intro a w ha hw
  refine ⟨by rw [ha.defers, hD], .tuple #[v, v'], ?_, h w hw⟩
  have h1 := hv X.D a w ha hw
  have h2 := hv' X.D a w ha hw
  have hs : ∀ r : ResultVar, (match r with | .tmp t => (pure (a.tmps.getD t undef) : Sem Value) | .cell b t => do loadVar t (← asAddr (a.tmps.getD b undef))) = readRV a r := by intro r; cases r <;> rfl
  have e : results fn a.tmps = (do let x ← readRV a r; let y ← readRV a r'; pure (.tuple #[x, y])) := by
    unfold results
    rw [hr]
    cases r <;> cases r' <;> simp [readRV]
  rw [e]
  simp [Sem.run_bind, h1, h2]
end
end Go.Proofs.Ytfhhggcdmgjbcaa.Sx
namespace Go.Proofs.Ytfhhggcdmgjbcaa.Sx
open Go Go.RowKit
theorem Ev.factAt {X : Cx} {c : Code} {E : Env} {S : List Item} {Q : Exit → Act → World → Prop} {φ : Prop} (j : Nat) (hj : S[j]? = some (Sx.fact φ)) (h : φ → Ev X c E S Q) : Ev X c E S Q := Ev.fact (List.mem_of_getElem? hj) h
theorem At.factAt {X : Cx} {e : Exit} {E : Env} {S : List Item} {Q : Exit → Act → World → Prop} {φ : Prop} (j : Nat) (hj : S[j]? = some (Sx.fact φ)) (h : φ → At X e E S Q) : At X e E S Q := At.fact (List.mem_of_getElem? hj) h
/-- nothing yet -/
theorem Heap.ownNil {w0 w : World} {S : List Item} (h : Heap w0 S w) (T : TypeId) (sz : Nat) : Heap w0 (own T sz none 0 0 [] :: S) w := by
  refine h.newI _ rfl rfl rfl (Nat.le_refl _) (fun q hq => ?_) (.inl ⟨rfl, rfl, rfl, rfl⟩) (fun _ _ => rfl)
  have : (none : Option Addr) = some ⟨q, 0, none⟩ := hq
  cases this
theorem Rg.ownNil {X : Cx} {ops : Array Oper} {i k : Nat} {E : Env} {S : List Item} {Q : Exit → Act → World → Prop} (T : TypeId) (sz : Nat) (h : Rg X ops i k E (own T sz none 0 0 [] :: S) Q) : Rg X ops i k E S Q :=
  fun a w ha hw => h a w ha (hw.ownNil T sz)
theorem Ev.ownNil {X : Cx} {c : Code} {E : Env} {S : List Item} {Q : Exit → Act → World → Prop} (T : TypeId) (sz : Nat) (h : Ev X c E (own T sz none 0 0 [] :: S) Q) : Ev X c E S Q :=
  fun a w ha hw => h a w ha (hw.ownNil T sz)
theorem Ev.addFact {X : Cx} {c : Code} {E : Env} {S : List Item} {Q : Exit → Act → World → Prop} {φ : Prop} (hφ : φ) (h : Ev X c E (Sx.fact φ :: S) Q) : Ev X c E S Q :=
  fun a w ha hw => h a w ha (hw.addFact hφ)
end Go.Proofs.Ytfhhggcdmgjbcaa.Sx
