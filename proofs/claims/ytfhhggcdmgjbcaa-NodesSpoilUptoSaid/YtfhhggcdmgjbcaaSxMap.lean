/-
  A part of the walk of the seat: laws of a small proof system, and contracts of functions, each proved. Conditions: as each theorem says.
-/
import Derived.Test.YtfhhggcdmgjbcaaSxQuiet
namespace Go.Proofs.Ytfhhggcdmgjbcaa.Sx
open Go Go.RowKit

/-! ### A map of the call's own: keys of one plain kind, int elements -/
structure KeyKind where
  K : Type
  [dec : DecidableEq K]
  enc : K → Value
  d : TypeDesc
  same : ∀ a b, Instr.sameNow d (enc a) (enc b) = some (decide (a = b))
  bits : ∀ a, Instr.sameBits 10000 (enc a) (enc a) = true
  plain : ∀ (P : Program) (w : World) (t : TypeId) (b : Bool) (a : K), P.underlying t = some d → (Instr.checkKey b 10000 t (enc a)).run P w = .ok () w
attribute [instance] KeyKind.dec

def look {K : Type} [DecidableEq K] : List (K × Int) → K → Option Int
  | [], _ => none
  | (a, v) :: l, k => if k = a then some v else look l k
def upd {K : Type} [DecidableEq K] : List (K × Int) → K → Int → List (K × Int)
  | [], k, v => [(k, v)]
  | (a, u) :: l, k, v => if k = a then (a, v) :: l else (a, u) :: upd l k v
theorem look_upd {K : Type} [DecidableEq K] (l : List (K × Int)) (k : K) (v : Int) (k' : K) : look (upd l k v) k' = if k' = k then some v else look l k' := by
  induction l with
  | nil => simp [upd, look]
  | cons x l ih =>
    obtain ⟨a, u⟩ := x
    simp only [upd]
    by_cases h : k = a
    · subst h
      simp only [if_true, look]
      by_cases h' : k' = k <;> simp [h']
    · simp only [h, if_false, look, ih]
      by_cases h' : k' = a
      · subst h'; simp [Ne.symm h]
      · simp [h']

def mapItem (κ : KeyKind) (r : Nat) (l : List (κ.K × Int)) : Item :=
  ⟨(· = r), fun w => ∃ es clock, w.heap[r]? = some (.map es clock) ∧ es.toList.map (fun e => (e.key, e.val)) = l.map fun x => (κ.enc x.1, Value.int .i64 x.2),
   fun _ _ h ⟨es, clock, h1, h2⟩ => ⟨es, clock, (h r rfl).trans h1, h2⟩⟩

theorem findNow_look (κ : KeyKind) (k : κ.K) : ∀ (es : List MapEntry) (l : List (κ.K × Int)) (i : Nat), es.map (fun e => (e.key, e.val)) = l.map (fun x => (κ.enc x.1, Value.int .i64 x.2)) →
    (look l k = none → Instr.findNow κ.d (κ.enc k) es i = some none) ∧ (∀ v, look l k = some v → ∃ j, Instr.findNow κ.d (κ.enc k) es i = some (some (i + j, .int .i64 v)) ∧ ∃ e, es[j]? = some e ∧ e.key = κ.enc k ∧
      ∀ v' : Int, ((es.modify j fun e => { e with key := κ.enc k, val := .int .i64 v' }).map fun e => (e.key, e.val)) = (upd l k v').map (fun x => (κ.enc x.1, Value.int .i64 x.2))) := by
  intro es
  induction es with
  | nil =>
    intro l i h
    cases l with
    | nil => exact ⟨fun _ => rfl, fun v hv => by simp [look] at hv⟩
    | cons x l => simp at h
  | cons e es ih =>
    intro l i h
    cases l with
    | nil => simp at h
    | cons x l =>
      obtain ⟨a, u⟩ := x
      simp only [List.map_cons, List.cons.injEq, Prod.mk.injEq] at h
      obtain ⟨⟨hk, hv⟩, hl⟩ := h
      obtain ⟨ih1, ih2⟩ := ih l (i + 1) hl
      have hs : Instr.sameNow κ.d (κ.enc k) e.key = some (decide (k = a)) := by rw [hk]; exact κ.same k a
      by_cases e1 : k = a
      · subst e1
        refine ⟨fun hn => by simp [look] at hn, fun v hv' => ⟨0, ?_, e, rfl, hk, fun v' => ?_⟩⟩
        · simp only [look, if_true, Option.some.injEq] at hv'
          subst hv'
          unfold Instr.findNow
          rw [hs]
          simp [hv]
        · simp only [List.modify_zero_cons, List.map_cons, upd, if_true, hl]
      · simp only [look, e1, if_false]
        refine ⟨fun hn => ?_, fun v hv' => ?_⟩
        · unfold Instr.findNow
          rw [hs]
          simp only [e1, decide_false]
          exact ih1 hn
        · obtain ⟨j, h1, e', h2, h3, h4⟩ := ih2 v hv'
          refine ⟨j + 1, ?_, e', by simpa using h2, h3, fun v' => ?_⟩
          · unfold Instr.findNow
            rw [hs]
            simp only [e1, decide_false]
            rw [h1]; simp only [Option.some.injEq, Prod.mk.injEq, and_true]; omega
          · simp only [List.modify_succ_cons, List.map_cons, upd, e1, if_false, h4 v', hk, hv]

theorem upd_new {K : Type} [DecidableEq K] : ∀ (l : List (K × Int)) (k : K) (v : Int), look l k = none → upd l k v = l ++ [(k, v)] := by
  intro l
  induction l with
  | nil => intro k v _; rfl
  | cons x l ih =>
    intro k v h
    obtain ⟨a, u⟩ := x
    simp only [look] at h
    split at h
    · cases h
    · rename_i hne
      simp only [upd, hne, if_false, ih k v h, List.cons_append]

section
variable {X : Cx} {ops : Array Oper} {i k : Nat} {E : Env} {S : List Item} {Q : Exit → Act → World → Prop}
def mapT (P : Program) (t : TypeId) : Option (TypeId × TypeId) := match P.underlying t with | some (.map a b) => some (a, b) | _ => none
theorem mapT_spec {P : Program} {t a b : TypeId} (h : mapT P t = some (a, b)) : P.underlying t = some (.map a b) := by
  unfold mapT at h
  split at h
  · rename_i h'; simp only [Option.some.injEq, Prod.mk.injEq] at h; obtain ⟨rfl, rfl⟩ := h; exact h'
  · cases h

theorem rg_makeMap {d : Nat} {t : TypeId} {g : Option (Nat × Bool)} (κ : KeyKind) (ho : opAt ops i = some (some d, .makeMap t none, g))
    (hc : (calm (.makeMap t none) && Nat.blt d X.N && Nat.blt i k && (says ops E g == some true)) = true)
    (h : ∀ r, Rg X ops (i + 1) k ((d, .map (some r)) :: E) (mapItem κ r [] :: S) Q) : Rg X ops i k E S Q :=
  Rg.value ho hc fun _ w o _ hw hop => ⟨.map (some w.heap.size), { w with heap := w.heap.push (.map #[] 0) }, mapItem κ w.heap.size [] :: S, by unfold execOp; rw [hop]; simp [Instr.makeMap],
    hw.newI _ rfl rfl rfl (by simp) (fun q hq => by have : q = w.heap.size := hq; subst this; simp) ⟨#[], 0, by simp, rfl⟩ (fun q hq => by rw [Array.getElem?_push, if_neg (by omega)]), h _⟩

theorem pv_lookup {t kt et : TypeId} {x y : Operand} (κ : KeyKind) {r : Nat} {l : List (κ.K × Int)} {a : κ.K} (j : Nat) (hx : E.op x = some (.map (some r))) (hy : E.op y = some (κ.enc a))
    (ht : mapT X.P t = some (kt, et)) (hk : X.P.underlying kt = some κ.d) (hz : zeroT X.P et = some (.int .i64 0)) (hj : S[j]? = some (mapItem κ r l)) :
    PV X E S (.lookup t x y false) (.int .i64 ((look l a).getD 0)) := by
  intro ac w o ha hw ho
  obtain ⟨es, clock, h1, h2⟩ := hw.at_ j hj
  unfold execOp; rw [ho]
  simp only [ha.eval hx, ha.eval hy]
  unfold Instr.lookup
  obtain ⟨f1, f2⟩ := findNow_look κ a es.toList l 0 h2
  have hg : (getObj r).run X.P w = .ok (.map es clock) w := by simp [getObj, Sem.run, h1]
  have hck := κ.plain X.P w kt es.isEmpty a hk
  simp only [Sem.run_bind, Sem.run_pure, run_underlying (mapT_spec ht), Result.andThen_ok, hg, hck, Instr.findKey, run_underlying hk]
  cases hl : look l a with
  | none =>
    rw [f1 hl]
    simp [run_zero hz]
  | some v =>
    obtain ⟨jj, h3, _⟩ := f2 v hl
    rw [h3]
    simp

theorem rg_mapUpdate {t kt et : TypeId} {x y z : Operand} {g : Option (Nat × Bool)} (κ : KeyKind) {r : Nat} {l : List (κ.K × Int)} {a : κ.K} {v : Int} (j : Nat) (ho : opAt ops i = some (none, .mapUpdate t x y z, g))
    (hc : (calm (.mapUpdate t x y z) && Nat.blt i k && (says ops E g == some true)) = true) (hx : E.op x = some (.map (some r))) (hy : E.op y = some (κ.enc a)) (hzv : E.op z = some (.int .i64 v))
    (ht : mapT X.P t = some (kt, et)) (hk : X.P.underlying kt = some κ.d) (hj : S[j]? = some (mapItem κ r l))
    (h : Rg X ops (i + 1) k E (S.set j (mapItem κ r (upd l a v))) Q) : Rg X ops i k E S Q := by
  refine Rg.quiet ho hc fun ac w o ha hw hop => ?_
  obtain ⟨es, clock, h1, h2⟩ := hw.at_ j hj
  obtain ⟨f1, f2⟩ := findNow_look κ a es.toList l 0 h2
  have hg : (getObj r).run X.P w = .ok (.map es clock) w := by simp [getObj, Sem.run, h1]
  have hck := κ.plain X.P w kt false a hk
  have hset : ∀ o', (setObj r o').run X.P w = .ok () { w with heap := w.heap.setIfInBounds r o' } := fun o' => by simp [setObj, Sem.run, h1]
  have hitem : ∀ (es' : Array MapEntry) (clock' : Nat), es'.toList.map (fun e => (e.key, e.val)) = (upd l a v).map (fun x => (κ.enc x.1, Value.int .i64 x.2)) →
      Heap X.w0 (S.set j (mapItem κ r (upd l a v))) { w with heap := w.heap.setIfInBounds r (.map es' clock') } := by
    intro es' clock' he
    have hlow : r < w.heap.size := (Array.getElem?_eq_some_iff.1 h1).1
    refine hw.setI j hj _ rfl rfl rfl (by simp) (fun q hq => .inl hq) ⟨es', clock', by simp [hlow], he⟩ (fun q _ hq => ?_)
    have hne : r ≠ q := fun e => hq e.symm
    exact Array.getElem?_setIfInBounds_ne hne
  cases hl : look l a with
  | none =>
    refine ⟨_, _, ?_, hitem (es.push { key := κ.enc a, val := .int .i64 v, born := clock }) (clock + 1) ?_, h⟩
    · unfold execOp; rw [hop]
      simp only [ha.eval hx, ha.eval hy, ha.eval hzv]
      unfold Instr.mapUpdate
      simp only [Sem.run_bind, run_underlying (mapT_spec ht), Result.andThen_ok, hg, hck, Instr.findKey, run_underlying hk, f1 hl, Sem.run_pure, hset]
    · rw [upd_new l a v hl]
      simp [h2]
  | some u =>
    obtain ⟨jj, h3, e', h4, h5, h6⟩ := f2 u hl
    refine ⟨_, _, ?_, hitem (es.modify jj fun e => { e with key := κ.enc a, val := .int .i64 v }) clock ?_, h⟩
    · unfold execOp; rw [hop]
      simp only [ha.eval hx, ha.eval hy, ha.eval hzv]
      unfold Instr.mapUpdate
      have h4' : es[jj]? = some e' := by simpa using h4
      simp only [Sem.run_bind, run_underlying (mapT_spec ht), Result.andThen_ok, hg, hck, Instr.findKey, run_underlying hk, h3, Sem.run_pure, Nat.zero_add, h4', Option.map_some, Option.getD_some, h5, Instr.keyThatStays, κ.bits, if_true, hset]
    · rw [Array.toList_modify]; exact h6 v
end

theorem ba_beq (a b : ByteArray) : (a == b) = true ↔ a = b := by
  cases a; cases b
  rename_i a b
  show ByteArray.beq ⟨a⟩ ⟨b⟩ = true ↔ _
  unfold ByteArray.beq
  simp
/-- keys that are strings -/
def strKey : KeyKind where
  K := ByteArray
  enc := .string
  d := .string
  same a b := by simp only [Instr.sameNow]; congr 1; rw [Bool.eq_iff_iff]; simp [ba_beq]
  bits a := by simp [Instr.sameBits, ba_beq]
  plain P w t b a h := by unfold Instr.checkKey; simp [run_underlying h]
/-- keys that are numbers of a kind -/
def intKey (q : IntKind) : KeyKind where
  K := Int
  enc n := .int q n
  d := .int q
  same a b := by simp only [Instr.sameNow, if_true]; congr 1
  bits a := by simp [Instr.sameBits]
  plain P w t b a h := by unfold Instr.checkKey; simp [run_underlying h]
end Go.Proofs.Ytfhhggcdmgjbcaa.Sx
