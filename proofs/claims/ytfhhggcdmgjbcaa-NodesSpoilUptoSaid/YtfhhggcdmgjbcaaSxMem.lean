/-
  A part of the walk of the seat: laws of a small proof system, and contracts of functions, each proved. Conditions: as each theorem says.
-/
import Derived.Test.YtfhhggcdmgjbcaaSxOps
namespace Go.Proofs.Ytfhhggcdmgjbcaa.Sx
open Go Go.RowKit

def fieldOff (P : Program) (s : TypeId) (f : Nat) : Option Nat :=
  match P.underlying s with
  | some (.struct fs) => match fs[f]? with
    | some fl => match P.info? fl.type with
      | some i => if Nat.beq i.size 0 then none else some fl.offset
      | none => none
    | none => none
  | _ => none
def isAggT (P : Program) (t : TypeId) : Bool := match P.underlying t with
  | some (.struct _) | some (.array _ _) => true
  | _ => false
def oneT (P : Program) (t : TypeId) : Bool := match P.underlying t with
  | some (.struct _) | some (.array _ _) | none => false
  | _ => true
def szT (P : Program) (t : TypeId) : Option Nat := (P.info? t).map (·.size)
def elemT (P : Program) (t : TypeId) : Option (TypeId × Nat) := match P.underlying t with
  | some (.slice e) => (szT P e).map fun n => (e, n)
  | _ => none
def zeroT (P : Program) (t : TypeId) : Option Value := (P.info? t).bind (·.zero)
def isSliceT (P : Program) (t : TypeId) : Bool := match P.underlying t with | some (.slice _) => true | _ => false
def isStringT (P : Program) (t : TypeId) : Bool := match P.underlying t with | some .string => true | _ => false

section
variable {P : Program} {w : World}
theorem run_isAgg_t {t : TypeId} (h : isAggT P t = true) : (isAgg t).run P w = .ok true w := by
  unfold isAggT at h
  unfold isAgg
  split at h <;> first | (rename_i h'; simp [run_underlying h']) | cases h
theorem run_isAgg_f {t : TypeId} (h : oneT P t = true) : (isAgg t).run P w = .ok false w := by
  unfold oneT at h
  unfold isAgg
  cases hu : P.underlying t with
  | none => rw [hu] at h; cases h
  | some d =>
    rw [hu] at h
    rw [Sem.run_bind, run_underlying hu]
    cases d <;> first | rfl | cases h
theorem run_szOf {t : TypeId} {n : Nat} (h : szT P t = some n) : (Go.sizeOf t).run P w = .ok n w := by
  unfold szT at h
  cases hi : P.info? t with
  | none => rw [hi] at h; cases h
  | some i => rw [hi] at h; simp at h; simp [Go.sizeOf, typeInfo, hi, h]
theorem run_zero {t : TypeId} {v : Value} (h : zeroT P t = some v) : (zeroValue t).run P w = .ok v w := by
  unfold zeroT at h
  cases hi : P.info? t with
  | none => rw [hi] at h; cases h
  | some i => rw [hi] at h; simp at h; simp [zeroValue, typeInfo, hi, h]
theorem run_fieldAt {s : TypeId} {f o : Nat} {a : Addr} (h : fieldOff P s f = some o) : (Instr.fieldAt s (.pointer (some a)) f).run P w = .ok (.pointer (some (a.add o))) w := by
  unfold fieldOff at h
  split at h
  · rename_i fs hu
    split at h
    · rename_i fl hf
      split at h
      · rename_i i hi
        split at h
        · cases h
        · rename_i hz
          simp only [Option.some.injEq] at h
          have hz' : i.size ≠ 0 := by simpa using hz
          simp [Instr.fieldAt, run_underlying hu, hf, Instr.sureAddr, fieldPlace, Go.sizeOf, typeInfo, hi, hz', h]
      · cases h
    · cases h
  · cases h
theorem run_loadVar_one {t : TypeId} {a : Addr} {v : Value} (h : oneT P t = true) (hc : w.cell? a = some v) : (loadVar t a).run P w = .ok v w := by
  unfold loadVar
  rw [Sem.run_bind, run_isAgg_f h]
  simp [hc]
theorem run_loadVar_agg {t : TypeId} {a : Addr} {cs : Array Value} (h : isAggT P t = true) (hs : szT P t = some cs.size)
    (hc : ∀ j, j < cs.size → w.cell? (a.add j) = cs[j]?) : (loadVar t a).run P w = .ok (.agg cs) w := by
  unfold loadVar
  rw [Sem.run_bind, run_isAgg_t h]
  have hl := run_loadCells_list (P := P) w a cs.toList (fun j v hv => by
    have hv' : cs[j]? = some v := by simpa using hv
    rw [hc j (Array.getElem?_eq_some_iff.1 hv').1, hv'])
  simp only [Array.length_toList, Array.toArray_toList] at hl
  simp [run_szOf hs, hl]
end
theorem add_mk (b o n : Nat) : (⟨b, o, none⟩ : Addr).add n = ⟨b, o + n, none⟩ := by
  unfold Addr.add; split
  · rename_i h; subst h; rfl
  · rfl
theorem cell_blk {w : World} {b : Nat} {cs : Array Value} {t : TypeId} {fr : Nat × Nat} (h : w.heap[b]? = some (.cells cs t fr)) (o : Nat) : w.cell? ⟨b, o, none⟩ = cs[o]? := by
  simp [World.cell?, h]

section
variable {X : Cx} {ops : Array Oper} {i k : Nat} {E : Env} {S : List Item} {Q : Exit → Act → World → Prop}

theorem pv_fieldAddr {s : TypeId} {x : Operand} {f b o n : Nat} (hx : E.op x = some (.pointer (some ⟨b, o, none⟩))) (hf : fieldOff X.P s f = some n) : PV X E S (.fieldAddr s x f) (.pointer (some ⟨b, o + n, none⟩)) := by
  intro a w op ha _ ho
  unfold execOp; rw [ho]; simp [ha.eval hx, run_fieldAt hf, add_mk]
theorem pv_indexAddr {t e : TypeId} {x y : Operand} {b o len cap sz : Nat} {q : IntKind} {n : Int} (hx : E.op x = some (.slice (some ⟨b, o, none⟩) len cap)) (hy : E.op y = some (.int q n))
    (he : elemT X.P t = some (e, sz)) (h0 : 0 ≤ n) (h1 : n < len) : PV X E S (.indexAddr t x y) (.pointer (some ⟨b, o + n.toNat * sz, none⟩)) := by
  intro a w op ha _ ho
  unfold elemT at he
  split at he
  · rename_i e' hu
    cases hs : szT X.P e' with
    | none => rw [hs] at he; cases he
    | some m =>
      rw [hs] at he; simp at he
      obtain ⟨rfl, rfl⟩ := he
      unfold execOp; rw [ho]
      simp [ha.eval hx, ha.eval hy, Instr.indexAt, asIntOf, run_underlying hu, h0, h1, run_szOf hs, add_mk]
  · cases he
theorem pv_len_slice {t : TypeId} {x : Operand} {p : Option Addr} {n c : Nat} (hx : E.op x = some (.slice p n c)) (ht : isSliceT X.P t = true) :
    PV X E S (.call { callee := .builtin .len, args := #[x], argTypes := #[t] }) (.int .i64 n) := by
  intro a w op ha _ ho
  unfold isSliceT at ht
  split at ht
  · rename_i e hu
    unfold execOp; rw [ho]; simp [resolve, invoke, builtin, ha.eval hx, Builtin.len_, run_underlying hu, goInt]
  · cases ht
theorem pv_len_string {t : TypeId} {x : Operand} {s : ByteArray} (hx : E.op x = some (.string s)) (ht : isStringT X.P t = true) :
    PV X E S (.call { callee := .builtin .len, args := #[x], argTypes := #[t] }) (.int .i64 s.size) := by
  intro a w op ha _ ho
  unfold isStringT at ht
  split at ht
  · rename_i hu
    unfold execOp; rw [ho]; simp [resolve, invoke, builtin, ha.eval hx, Builtin.len_, run_underlying hu, goInt]
  · cases ht

/-! ### Loads -/
theorem pv_load {t : TypeId} {x : Operand} {p : Addr} {v : Value} (hx : E.op x = some (.pointer (some p))) (ht : oneT X.P t = true) (hc : ∀ w, Heap X.w0 S w → w.cell? p = some v) :
    PV X E S (.load t x) v := by
  intro a w op ha hw ho
  unfold execOp; rw [ho]; simp [ha.eval hx, Instr.loadAt, Instr.sureAddr, run_loadVar_one ht (hc w hw)]
theorem pv_load_agg {t : TypeId} {x : Operand} {p : Addr} {cs : Array Value} (hx : E.op x = some (.pointer (some p))) (ht : isAggT X.P t = true) (hs : szT X.P t = some cs.size)
    (hc : ∀ w, Heap X.w0 S w → ∀ j, j < cs.size → w.cell? (p.add j) = cs[j]?) : PV X E S (.load t x) (.agg cs) := by
  intro a w op ha hw ho
  unfold execOp; rw [ho]; simp [ha.eval hx, Instr.loadAt, Instr.sureAddr, run_loadVar_agg ht hs (hc w hw)]
/-- out of a block that is known -/
theorem pv_load_blk {t u : TypeId} {x : Operand} {b o : Nat} {cs : Array Value} {fr : Nat × Nat} {v : Value} (j : Nat) (hx : E.op x = some (.pointer (some ⟨b, o, none⟩)))
    (hj : S[j]? = some (blk b (.cells cs u fr))) (ht : oneT X.P t = true) (hv : cs[o]? = some v) : PV X E S (.load t x) v :=
  pv_load hx ht fun w hw => (cell_blk (hw.blk_at j hj) o).trans hv
/-- a part of a known block, as a whole -/
theorem pv_load_blk_agg {t u : TypeId} {x : Operand} {b o : Nat} {cs : Array Value} {fr : Nat × Nat} {vs : Array Value} (j : Nat) (hx : E.op x = some (.pointer (some ⟨b, o, none⟩)))
    (hj : S[j]? = some (blk b (.cells cs u fr))) (ht : isAggT X.P t = true) (hs : szT X.P t = some vs.size) (hv : ∀ n, n < vs.size → cs[o + n]? = vs[n]?) : PV X E S (.load t x) (.agg vs) :=
  pv_load_agg hx ht hs fun w hw n hn => by rw [add_mk, cell_blk (hw.blk_at j hj), hv n hn]

/-! ### New blocks -/
theorem rg_box {d : Nat} {t : TypeId} {x : Operand} {g : Option (Nat × Bool)} {v : Value} (ho : opAt ops i = some (some d, .box t x, g))
    (hc : (calm (.box t x) && Nat.blt d X.N && Nat.blt i k && (says ops E g == some true)) = true) (hx : E.op x = some v)
    (h : ∀ b, Rg X ops (i + 1) k ((d, .pointer (some ⟨b, 0, none⟩)) :: E) (blk b (.cells v.cells t) :: S) Q) : Rg X ops i k E S Q :=
  Rg.value ho hc fun a w o ha hw hop => ⟨_, _, _, by unfold execOp; rw [hop]; simp [ha.eval hx, Instr.box, newVar, newRow], hw.alloc _, h _⟩
theorem rg_alloc {d : Nat} {t : TypeId} {g : Option (Nat × Bool)} {v : Value} (ho : opAt ops i = some (some d, .alloc t, g))
    (hc : (calm (.alloc t) && Nat.blt d X.N && Nat.blt i k && (says ops E g == some true)) = true) (hz : zeroT X.P t = some v)
    (h : ∀ b, Rg X ops (i + 1) k ((d, .pointer (some ⟨b, 0, none⟩)) :: E) (blk b (.cells v.cells t) :: S) Q) : Rg X ops i k E S Q :=
  Rg.value ho hc fun _ _ _ _ hw hop => ⟨_, _, _, by unfold execOp; rw [hop]; simp [Instr.alloc, run_zero hz, newVar, newRow], hw.alloc _, h _⟩

/-! ### Stores -/
def putCells (cs : Array Value) (o : Nat) : List Value → Array Value
  | [] => cs
  | v :: vs => putCells (cs.setIfInBounds o v) (o + 1) vs
theorem putCells_size : ∀ (vs : List Value) (cs : Array Value) (o : Nat), (putCells cs o vs).size = cs.size := by
  intro vs
  induction vs with
  | nil => intro cs o; rfl
  | cons v vs ih => intro cs o; simp [putCells, ih]

theorem setCell_blk {w : World} {b : Nat} {cs : Array Value} {t : TypeId} {fr : Nat × Nat} (h : w.heap[b]? = some (.cells cs t fr)) (o : Nat) (v : Value) :
    w.setCell ⟨b, o, none⟩ v = { w with heap := w.heap.setIfInBounds b (.cells (cs.setIfInBounds o v) t fr) } := by
  have hb : b < w.heap.size := (Array.getElem?_eq_some_iff.1 h).1
  have hg : w.heap[b] = .cells cs t fr := (Array.getElem?_eq_some_iff.1 h).2
  unfold World.setCell
  congr 1
  apply Array.ext
  · simp
  · intro j h1 h2
    rw [Array.getElem_modify]
    by_cases e : b = j
    · subst e; simp [hg]
    · rw [if_neg e, Array.getElem_setIfInBounds_ne (by simpa using h2) e]

theorem run_storeCells {P : Program} {t : TypeId} : ∀ (vs : List Value) (w : World) (b o j : Nat) (cs : Array Value), w.heap[b]? = some (.cells cs t (0, 0)) → o + j + vs.length ≤ cs.size → (vs.all (·.oneCell')) = true →
    (storeCells ⟨b, o, none⟩ vs j).run P w = .ok () { w with heap := w.heap.setIfInBounds b (.cells (putCells cs (o + j) vs) t (0, 0)) } := by
  intro vs
  induction vs with
  | nil =>
    intro w b o j cs h _ _
    simp only [storeCells, Sem.run_pure, putCells]
    congr 1
    have hb : b < w.heap.size := (Array.getElem?_eq_some_iff.1 h).1
    have hg : w.heap[b] = .cells cs t (0, 0) := (Array.getElem?_eq_some_iff.1 h).2
    have e : w.heap.setIfInBounds b (.cells cs t (0, 0)) = w.heap := by
      apply Array.ext
      · simp
      · intro j h1 h2
        by_cases e : b = j
        · subst e; simp [hg]
        · rw [Array.getElem_setIfInBounds_ne (by simpa using h1) e]
    rw [e]
  | cons v vs ih =>
    intro w b o j cs h hle hone
    simp only [List.length_cons] at hle
    simp only [List.all_cons, Bool.and_eq_true] at hone
    unfold storeCells
    rw [Sem.run_bind, add_mk, run_store _ _ _ _ _ hone.1]
    have hc : w.cell? ⟨b, o + j, none⟩ = cs[o + j]? := cell_blk h _
    have hlt : o + j < cs.size := by omega
    rw [hc, Array.getElem?_eq_getElem hlt]
    have hfr : w.frozen? ⟨b, o + j, none⟩ = false := by simp [World.frozen?, h]
    simp only [hfr]
    rw [setCell_blk h]
    simp only [Bool.false_eq_true, if_false, Result.andThen_ok]
    have hb : b < w.heap.size := (Array.getElem?_eq_some_iff.1 h).1
    rw [ih _ b o (j + 1) (cs.setIfInBounds (o + j) v) (by simp [hb]) (by simp; omega) hone.2]
    simp [putCells, Nat.add_assoc]

theorem run_storeVar {P : Program} {t ty : TypeId} {v : Value} {w : World} {b o : Nat} {cs : Array Value} (h : w.heap[b]? = some (.cells cs t (0, 0))) (hs : szT P ty = some v.cells.size)
    (hle : o + v.cells.size ≤ cs.size) (hone : (v.cells.toList.all (·.oneCell')) = true) :
    (storeVar ty ⟨b, o, none⟩ v).run P w = .ok () { w with heap := w.heap.setIfInBounds b (.cells (putCells cs o v.cells.toList) t (0, 0)) } := by
  unfold storeVar
  rw [Sem.run_bind, run_szOf hs]
  have := run_storeCells (P := P) v.cells.toList w b o 0 cs h (by simpa using hle) hone
  simp [this]

/-- a store into a known block: what it holds then is given -/
theorem rg_store {t u : TypeId} {x y : Operand} {g : Option (Nat × Bool)} {b o : Nat} {v : Value} {cs cs' : Array Value} (j : Nat) (ho : opAt ops i = some (none, .store t x y, g))
    (hc : (calm (.store t x y) && Nat.blt i k && (says ops E g == some true)) = true) (hx : E.op x = some (.pointer (some ⟨b, o, none⟩))) (hy : E.op y = some v)
    (hj : S[j]? = some (blk b (.cells cs u (0, 0)))) (hs : szT X.P t = some v.cells.size) (hle : o + v.cells.size ≤ cs.size) (hone : (v.cells.toList.all (·.oneCell')) = true)
    (he : putCells cs o v.cells.toList = cs') (h : Rg X ops (i + 1) k E (S.set j (blk b (.cells cs' u (0, 0)))) Q) : Rg X ops i k E S Q :=
  Rg.quiet ho hc fun a w op ha hw hop => ⟨{ w with heap := w.heap.setIfInBounds b (.cells (putCells cs o v.cells.toList) u (0, 0)) }, _, by
    unfold execOp; rw [hop]
    simp [ha.eval hx, ha.eval hy, Instr.storeAt, Instr.sureAddr, run_storeVar (hw.blk_at j hj) hs hle hone], hw.set j hj _ rfl rfl rfl rfl, he ▸ h⟩
end
end Go.Proofs.Ytfhhggcdmgjbcaa.Sx
