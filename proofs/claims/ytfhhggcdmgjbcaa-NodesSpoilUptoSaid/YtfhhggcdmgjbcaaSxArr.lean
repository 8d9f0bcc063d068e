/-
  A part of the walk of the seat: laws of a small proof system, and contracts of functions, each proved. Conditions: as each theorem says.
-/
import Derived.Test.YtfhhggcdmgjbcaaSxMore
import Derived.DeepKeys
namespace Go.Proofs.Ytfhhggcdmgjbcaa.Sx
open Go Go.RowKit

section
variable {X : Cx} {ops : Array Oper} {i k : Nat} {E : Env} {S : List Item} {Q : Exit → Act → World → Prop} {c : Code}

theorem pv_cap_slice {t : TypeId} {x : Operand} {p : Option Addr} {n c : Nat} (hx : E.op x = some (.slice p n c)) (ht : isSliceT X.P t = true) :
    PV X E S (.call { callee := .builtin .cap, args := #[x], argTypes := #[t] }) (.int .i64 c) := by
  intro a w op ha _ ho
  unfold isSliceT at ht
  split at ht
  · rename_i e hu
    unfold execOp; rw [ho]; simp [resolve, invoke, builtin, ha.eval hx, Builtin.cap_, run_underlying hu, goInt]
  · cases ht

/-- a conversion of a constant's bytes: the row gets a mark behind its end -/
theorem rg_convert_row {d : Nat} {t e : TypeId} {x : Operand} {g : Option (Nat × Bool)} {b n c : Nat} {cs : Array Value} {T : TypeId} (j : Nat) (ho : opAt ops i = some (some d, .convert t t x, g))
    (hc : (calm (.convert t t x) && Nat.blt d X.N && Nat.blt i k && (says ops E g == some true)) = true) (hx : E.op x = some (.slice (some ⟨b, 0, none⟩) n c))
    (ht : X.P.underlying t = some (.slice e)) (he : X.P.underlying e = some (.int .u8)) (hj : S[j]? = some (blk b (.cells cs T (0, 0))))
    (h : Rg X ops (i + 1) k ((d, .slice (some ⟨b, 0, none⟩) n c) :: E) (S.set j (blk b (.cells cs T (cs.size, cs.size + 1)))) Q) : Rg X ops i k E S Q := by
  refine Rg.value ho hc fun a w op ha hw hop => ?_
  have hb := hw.blk_at j hj
  have hlt := hw.blk_lt j hj
  refine ⟨_, { w with heap := w.heap.setIfInBounds b (.cells cs T (cs.size, cs.size + 1)) }, _, ?_, hw.set j hj _ rfl rfl rfl rfl, h⟩
  have hsh : w.shape? b = some (T, cs.size) := by unfold World.shape?; rw [hb]
  have hfr : w.freeze ⟨b, cs.size, none⟩ 1 = { w with heap := w.heap.setIfInBounds b (.cells cs T (cs.size, cs.size + 1)) } := by
    unfold World.freeze
    rw [if_neg (by decide)]
    have hm : ∀ (f : Obj → Obj) (o' : Obj), f (.cells cs T (0, 0)) = o' → w.heap.modify b f = w.heap.setIfInBounds b o' := by
      intro f o' hf
      apply Array.ext_getElem?
      intro q
      rw [Array.getElem?_modify]
      by_cases e : b = q
      · subst e
        rw [if_pos rfl, hb, Array.getElem?_setIfInBounds_self_of_lt hlt, ← hf]; rfl
      · rw [if_neg e, Array.getElem?_setIfInBounds_ne e]
    show ({ w with heap := w.heap.modify b _ } : World) = _
    rw [hm _ (.cells cs T (cs.size, cs.size + 1)) rfl]
  unfold execOp; rw [hop]
  simp [ha.eval hx, convert, run_underlying ht, run_underlying he, markStringish, hsh, hfr]

theorem eqGuard_slice {P : Program} {w : World} {op : BinOp} {t : TypeId} {x y : Operand} {p q : Option Addr} {n c n' c' : Nat} : (eqGuard op t x y (.slice p n c) (.slice q n' c')).run P w = .ok () w := by
  unfold eqGuard
  split <;> simp
theorem equal_nilslice {P : Program} {w : World} {t e : TypeId} {p : Option Addr} {n c n' c' : Nat} (hu : P.underlying t = some (.slice e)) : (Op.equal t (.slice p n c) (.slice none n' c')).run P w = .ok p.isNone w := by
  unfold Op.equal
  rw [show Op.maxDepth = 9999 + 1 from rfl]
  cases p with
  | none => unfold Op.equalIn; rw [Sem.run_bind, run_underlying hu]; rfl
  | some a => unfold Op.equalIn; rw [Sem.run_bind, run_underlying hu]; rfl
theorem pv_eql_nilslice {t u : TypeId} {x y : Operand} {p : Option Addr} {n c n' c' : Nat} (hx : E.op x = some (.slice p n c)) (hy : E.op y = some (.slice none n' c')) (ht : isSliceT X.P t = true) : PV X E S (.binOp .eql t x y u) (.bool p.isNone) := by
  intro a w o ha _ ho
  unfold isSliceT at ht
  split at ht
  · rename_i e hu
    unfold execOp; rw [ho]
    simp [ha.eval hx, ha.eval hy, eqGuard_slice, binOp, equal_nilslice hu]
  · cases ht
theorem pv_neq_nilslice {t u : TypeId} {x y : Operand} {p : Option Addr} {n c n' c' : Nat} (hx : E.op x = some (.slice p n c)) (hy : E.op y = some (.slice none n' c')) (ht : isSliceT X.P t = true) : PV X E S (.binOp .neq t x y u) (.bool (!p.isNone)) := by
  intro a w o ha _ ho
  unfold isSliceT at ht
  split at ht
  · rename_i e hu
    unfold execOp; rw [ho]
    simp [ha.eval hx, ha.eval hy, eqGuard_slice, binOp, equal_nilslice hu]
  · cases ht

/-- a literal slice of nothing -/
theorem rg_buildSlice0 {d : Nat} {t e sz : TypeId} {g : Option (Nat × Bool)} (ho : opAt ops i = some (some d, .buildSlice t 0 #[], g))
    (hc : (calm (.buildSlice t 0 #[]) && Nat.blt d X.N && Nat.blt i k && (says ops E g == some true)) = true) (he : elemT X.P t = some (e, sz))
    (h : ∀ b, Rg X ops (i + 1) k ((d, .slice (some ⟨b, 0, none⟩) 0 0) :: E) (own e sz (some ⟨b, 0, none⟩) 0 0 [] :: S) Q) : Rg X ops i k E S Q := by
  refine Rg.value ho hc fun a w o ha hw hop => ?_
  unfold elemT at he
  split at he
  · rename_i e' hu
    cases hs : szT X.P e' with
    | none => rw [hs] at he; cases he
    | some qq =>
      rw [hs] at he
      simp only [Option.map_some, Option.some.injEq, Prod.mk.injEq] at he
      obtain ⟨rfl, rfl⟩ := he
      refine ⟨.slice (some ⟨w.heap.size, 0, none⟩) 0 0, { w with heap := w.heap.push (.cells #[] e' (0, 0)) }, _, ?_, ?_, h w.heap.size⟩
      · unfold execOp; rw [hop]
        simp [Instr.buildSlice, run_underlying hu, run_szOf hs, Instr.fill, newRow]
        rw [show Array.range 0 = #[] from rfl]; simp
      · refine hw.newI _ rfl rfl rfl (by simp) (fun q' hq' => ?_) (.inr ⟨w.heap.size, [], rfl, by simp, by simp, by simp⟩) (fun q' hq1 => ?_)
        · have hq2 : (some (⟨w.heap.size, 0, none⟩ : Addr)) = some ⟨q', 0, none⟩ := hq'
          simp only [Option.some.injEq, Addr.mk.injEq, and_true] at hq2
          subst hq2; simp
        · show (w.heap.push _)[q']? = _
          rw [Array.getElem?_push, if_neg (by omega)]
  · cases he

/-! ### Bytes of blocks, arrays of bytes -/
theorem blk_bytes {w0 w : World} {S : List Item} (hw : Heap w0 S w) (j : Nat) {b T : Nat} {z : Nat × Nat} {cs : Array Value} (xs : List Int) (hj : S[j]? = some (blk b (.cells cs T z))) (hc : cs = (bv xs).toArray) : BytesAt (Low w) w (some ⟨b, 0, none⟩) xs := by
  subst hc
  have hb := hw.blk_at j hj
  have hlt := hw.blk_lt j hj
  refine ⟨fun _ => ⟨b, 0, rfl⟩, fun b' o' _ hp => ?_, fun b' o' hp i hi jj hjj => ?_⟩
  · simp only [Option.some.injEq, Addr.mk.injEq] at hp
    show b' < _
    omega
  · simp only [Option.some.injEq, Addr.mk.injEq, and_true] at hp
    obtain ⟨rfl, rfl⟩ := hp
    rw [cell_blk hb, show 0 + i * 1 + jj = i from by omega]
    simp [bv, List.getD_eq_getElem?_getD, List.getElem?_eq_getElem hi]
theorem pv_load_arr {t : TypeId} {x : Operand} {p : Option Addr} {m : Nat} {xs : List Int} (hx : E.op x = some (.pointer p)) (h0 : 0 < m) (hm : xs.length = m) (ht : isAggT X.P t = true) (hs : szT X.P t = some m)
    (h : ∀ w, Heap X.w0 S w → BytesAt (Low w) w p xs) : PV X E S (.load t x) (.agg (bv xs).toArray) := by
  intro a w o ha hw ho
  have hB := h w hw
  obtain ⟨b, of, hp⟩ := hB.adr (by omega)
  subst hp
  refine pv_load_agg (E := E) (S := S) hx (cs := (bv xs).toArray) ht (by simpa [bv, hm] using hs) (fun w hw j hj => ?_) a w o ha hw ho
  have hj' : j < xs.length := by simpa [bv] using hj
  have := (h w hw).cell b of rfl j hj' 0 (by omega)
  rw [add_mk]; rw [show of + j * 1 + 0 = of + j from by omega] at this
  rw [this]
  simp [bv, List.getD_eq_getElem?_getD, List.getElem?_eq_getElem hj']

theorem part_int {P : Program} {e : TypeId} {q : IntKind} (he : P.underlying e = some (.int q)) {xs : Array Value} {off : Nat} {v : Value} (hx : xs[off]? = some v) (w : World) : (part e xs off).run P w = .ok v w := by
  simp [part, isAgg, run_underlying he, hx]
theorem equal_int {P : Program} {e : TypeId} {q : IntKind} (he : P.underlying e = some (.int q)) (d : Nat) (k : IntKind) (a b : Int) (w : World) : (Op.equalIn (d + 1) e (.int k a) (.int k b)).run P w = .ok (decide (a = b)) w := by
  simp only [Op.equalIn, Sem.run_bind, run_underlying he, Result.andThen_ok, if_true, Sem.run_pure]
  rfl
theorem eqItems_ints {P : Program} {e : TypeId} {q : IntKind} (he : P.underlying e = some (.int q)) (d : Nat) (k : IntKind) (as bs : List Int) (w : World) : ∀ (is : List Nat), (∀ i ∈ is, i < as.length ∧ i < bs.length) →
    (Op.eqItems (d + 1) e 1 (as.map (Value.int k)).toArray (bs.map (Value.int k)).toArray is).run P w = .ok (is.all fun i => decide (as.getD i 0 = bs.getD i 0)) w := by
  intro is
  induction is with
  | nil => intro _; simp [Op.eqItems]
  | cons i is ih =>
    intro h
    obtain ⟨h1, h2⟩ := h i (by simp)
    have ha : (as.map (Value.int k)).toArray[i * 1]? = some (.int k (as.getD i 0)) := by simp [List.getD_eq_getElem?_getD, List.getElem?_eq_getElem h1]
    have hb : (bs.map (Value.int k)).toArray[i * 1]? = some (.int k (bs.getD i 0)) := by simp [List.getD_eq_getElem?_getD, List.getElem?_eq_getElem h2]
    simp only [Op.eqItems, Sem.run_bind, part_int he ha, part_int he hb, Result.andThen_ok, equal_int he, List.all_cons]
    by_cases hab : as.getD i 0 = bs.getD i 0
    · simp only [hab, decide_true, Bool.not_true, Bool.false_eq_true, if_false, Bool.true_and]
      exact ih fun j hj => h j (by simp [hj])
    · simp only [hab, decide_false, Bool.not_false, if_true, Sem.run_pure, Bool.false_and]
theorem all_getD_eq (as bs : List Int) (hl : as.length = bs.length) : ((List.range as.length).all fun i => decide (as.getD i 0 = bs.getD i 0)) = decide (as = bs) := by
  rw [Bool.eq_iff_iff, List.all_eq_true, decide_eq_true_iff]
  constructor
  · intro h
    apply List.ext_getElem hl
    intro i h1 h2
    have := h i (by simpa using h1)
    simpa [List.getD_eq_getElem?_getD, List.getElem?_eq_getElem h1, List.getElem?_eq_getElem h2] using this
  · rintro rfl i _; simp
theorem eqGuard_agg {P : Program} {w : World} {op : BinOp} {t : TypeId} {x y : Operand} {xs ys : Array Value} (hg : P.eqGuardType P.depth t = false) : (eqGuard op t x y (.agg xs) (.agg ys)).run P w = .ok () w := by
  unfold eqGuard
  cases op <;> simp [hg]
theorem equal_arr {P : Program} {w : World} {t e : TypeId} {q : IntKind} {n : Nat} (k : IntKind) (as bs : List Int) (ht : P.underlying t = some (.array n e)) (he : P.underlying e = some (.int q)) (hc : P.cellsOf e = 1) (h1 : as.length = n) (h2 : bs.length = n) :
    (Op.equal t (.agg (as.map (Value.int k)).toArray) (.agg (bs.map (Value.int k)).toArray)).run P w = .ok (decide (as = bs)) w := by
  obtain ⟨inf, hinf⟩ := info_of_underlying he
  unfold Op.equal
  rw [show Op.maxDepth = 9998 + 1 + 1 from rfl, run_equalIn_array w (9998 + 1) _ _ ht hinf, hc, eqItems_ints he 9998 k as bs w (List.range n) (fun i hi => by simp at hi; omega)]
  subst h1
  rw [all_getD_eq as bs h2.symm]
theorem pv_neq_arr {t u e : TypeId} {x y : Operand} {q : IntKind} {n : Nat} {us vs : List Int} (hx : E.op x = some (.agg (bv us).toArray)) (hy : E.op y = some (.agg (bv vs).toArray)) (ht : X.P.underlying t = some (.array n e)) (he : X.P.underlying e = some (.int q))
    (hc : X.P.cellsOf e = 1) (hg : X.P.eqGuardType X.P.depth t = false) (h1 : us.length = n) (h2 : vs.length = n) : PV X E S (.binOp .neq t x y u) (.bool (!decide (us = vs))) := by
  intro a w o ha _ ho
  unfold execOp; rw [ho]
  simp [ha.eval hx, ha.eval hy, eqGuard_agg hg, binOp, bv, equal_arr .u8 us vs ht he hc h1 h2]
theorem pv_eql_arr {t u e : TypeId} {x y : Operand} {q : IntKind} {n : Nat} {us vs : List Int} (hx : E.op x = some (.agg (bv us).toArray)) (hy : E.op y = some (.agg (bv vs).toArray)) (ht : X.P.underlying t = some (.array n e)) (he : X.P.underlying e = some (.int q))
    (hc : X.P.cellsOf e = 1) (hg : X.P.eqGuardType X.P.depth t = false) (h1 : us.length = n) (h2 : vs.length = n) : PV X E S (.binOp .eql t x y u) (.bool (decide (us = vs))) := by
  intro a w o ha _ ho
  unfold execOp; rw [ho]
  simp [ha.eval hx, ha.eval hy, eqGuard_agg hg, binOp, bv, equal_arr .u8 us vs ht he hc h1 h2]

/-! ### Structs of numbers -/
def isStructT (P : Program) (t : TypeId) : Bool := match P.underlying t with | some (.struct _) => true | _ => false
def eqF (P : Program) (xs ys : Array Value) : List Field → Option Bool
  | [] => some true
  | f :: fs => match decide (f.name = "_"), P.underlying f.type, xs[f.offset]?, ys[f.offset]?, eqF P xs ys fs with
    | false, some (.int _), some (.int k a), some (.int k' b), some r => if k = k' then some (decide (a = b) && r) else none
    | _, _, _, _, _ => none
theorem run_eqF {P : Program} {xs ys : Array Value} (d : Nat) (w : World) : ∀ (fs : List Field) (b : Bool), eqF P xs ys fs = some b → (Op.eqFields (d + 1) xs ys fs).run P w = .ok b w := by
  intro fs
  induction fs with
  | nil => intro b h; simp only [eqF, Option.some.injEq] at h; subst h; simp [Op.eqFields]
  | cons f fs ih =>
    intro b h
    unfold eqF at h
    split at h
    · rename_i q k a k' b' r hn hu hx hy hr
      split at h
      · rename_i hk
        subst hk
        simp only [Option.some.injEq] at h
        subst h
        have hn' : f.name ≠ "_" := by simpa using hn
        simp only [Op.eqFields, hn', ne_eq, not_false_eq_true, if_true, Sem.run_bind, part_int hu hx, part_int hu hy, Result.andThen_ok, equal_int hu]
        by_cases hab : a = b'
        · simp only [hab, decide_true, Bool.not_true, Bool.false_eq_true, if_false, Bool.true_and]; exact ih r hr
        · simp only [hab, decide_false, Bool.not_false, if_true, Sem.run_pure, Bool.false_and]
      · cases h
    · cases h
theorem equal_struct {P : Program} {w : World} {t : TypeId} {xs ys : Array Value} {b : Bool} (ht : isStructT P t = true) (hp : P.stoodInHeld t = false) (h : eqF P xs ys (P.fieldsOf t).toList = some b) : (Op.equal t (.agg xs) (.agg ys)).run P w = .ok b w := by
  have hu : P.underlying t = some (.struct (P.fieldsOf t)) := by
    unfold isStructT at ht
    unfold Program.fieldsOf
    split at ht
    · rename_i fs hu; rw [hu]
    · cases ht
  unfold Op.equal
  rw [show Op.maxDepth = 9998 + 1 + 1 from rfl, run_equalIn_struct w (9998 + 1) t xs ys hu hp]
  exact run_eqF 9998 w _ b h
theorem pv_eql_struct {t u : TypeId} {x y : Operand} {xs ys : Array Value} {b : Bool} (hx : E.op x = some (.agg xs)) (hy : E.op y = some (.agg ys)) (ht : isStructT X.P t = true) (hp : X.P.stoodInHeld t = false) (hg : X.P.eqGuardType X.P.depth t = false)
    (h : eqF X.P xs ys (X.P.fieldsOf t).toList = some b) : PV X E S (.binOp .eql t x y u) (.bool b) := by
  intro a w o ha _ ho
  unfold execOp; rw [ho]
  simp [ha.eval hx, ha.eval hy, eqGuard_agg hg, binOp, equal_struct ht hp h]
theorem pv_neq_struct {t u : TypeId} {x y : Operand} {xs ys : Array Value} {b : Bool} (hx : E.op x = some (.agg xs)) (hy : E.op y = some (.agg ys)) (ht : isStructT X.P t = true) (hp : X.P.stoodInHeld t = false) (hg : X.P.eqGuardType X.P.depth t = false)
    (h : eqF X.P xs ys (X.P.fieldsOf t).toList = some b) : PV X E S (.binOp .neq t x y u) (.bool (!b)) := by
  intro a w o ha _ ho
  unfold execOp; rw [ho]
  simp [ha.eval hx, ha.eval hy, eqGuard_agg hg, binOp, equal_struct ht hp h]

/-! ### A row of slices of bytes -/
structure Row where
  p : Option Addr
  cap : Nat
  xs : List Int
def rw_ (rs : List Row) (i : Nat) : Row := rs.getD i ⟨none, 0, []⟩
structure SlicesAt (F : Nat → Prop) (w : World) (p : Option Addr) (rs : List Row) : Prop where
  rows : RowsAt F w 1 p rs.length fun i _ => some (.slice (rw_ rs i).p (rw_ rs i).xs.length (rw_ rs i).cap)
  row : ∀ i, BytesAt F w (rw_ rs i).p (rw_ rs i).xs
theorem SlicesAt.keep {F F' : Nat → Prop} {w w' : World} {p : Option Addr} {rs : List Row} (h : SlicesAt F w p rs) (hk : ∀ k, F k → w'.heap[k]? = w.heap[k]?) (hF : ∀ k, F k → F' k) : SlicesAt F' w' p rs :=
  ⟨h.rows.keep hk hF, fun i => (h.row i).keep hk hF⟩
theorem slicesAt_of {w0 w : World} {S : List Item} (hw : Heap w0 S w) (j : Nat) {b T : Nat} {z : Nat × Nat} {cs : Array Value} (rs : List Row) (hj : S[j]? = some (blk b (.cells cs T z)))
    (hc : cs = (rs.map fun r => Value.slice r.p r.xs.length r.cap).toArray) (h : ∀ r ∈ rs, BytesAt (Low w) w r.p r.xs) : SlicesAt (Low w) w (some ⟨b, 0, none⟩) rs := by
  subst hc
  have hb := hw.blk_at j hj
  have hlt := hw.blk_lt j hj
  refine ⟨⟨fun _ => ⟨b, 0, rfl⟩, fun b' o' _ hp => ?_, fun b' o' hp i hi jj hjj => ?_⟩, fun i => ?_⟩
  · simp only [Option.some.injEq, Addr.mk.injEq] at hp
    show b' < _
    omega
  · simp only [Option.some.injEq, Addr.mk.injEq, and_true] at hp
    obtain ⟨rfl, rfl⟩ := hp
    rw [cell_blk hb, show 0 + i * 1 + jj = i from by omega]
    simp [rw_, List.getD_eq_getElem?_getD, List.getElem?_eq_getElem hi]
  · by_cases hi : i < rs.length
    · have : rw_ rs i = rs[i] := by simp [rw_, List.getD_eq_getElem?_getD, List.getElem?_eq_getElem hi]
      rw [this]; exact h _ (List.getElem_mem hi)
    · have : rw_ rs i = ⟨none, 0, []⟩ := by simp [rw_, List.getD_eq_getElem?_getD, List.getElem?_eq_none (show rs.length ≤ i by omega)]
      rw [this]
      exact ⟨fun h => by simp at h, fun _ _ h => by simp at h, fun _ _ _ i h => by simp at h⟩
def lenTo (rs : List Row) : Nat → Nat
  | 0 => 0
  | n + 1 => lenTo rs n + (rw_ rs n).xs.length
def catV (rs : List Row) : Nat → List Value
  | 0 => []
  | n + 1 => catV rs n ++ bv (rw_ rs n).xs
def catB (rs : List Row) : Nat → List Int
  | 0 => []
  | n + 1 => catB rs n ++ (rw_ rs n).xs
theorem catV_eq (rs : List Row) (n : Nat) : catV rs n = bv (catB rs n) := by
  induction n with
  | zero => rfl
  | succ n ih => simp only [catV, catB, ih, bv_app]
theorem lenTo_eq (rs : List Row) (n : Nat) : lenTo rs n = (catB rs n).length := by
  induction n with
  | zero => rfl
  | succ n ih => simp only [lenTo, catB, ih, List.length_append]
theorem lenTo_all (rs : List Row) (n : Nat) : lenTo rs n ≤ lenTo rs rs.length := by
  have mono : ∀ m k, lenTo rs m ≤ lenTo rs (m + k) := by
    intro m k
    induction k with
    | zero => exact Nat.le_refl _
    | succ k ih => exact Nat.le_trans ih (by show _ ≤ lenTo rs (m + k) + _; omega)
  have stop : ∀ k, lenTo rs (rs.length + k) = lenTo rs rs.length := by
    intro k
    induction k with
    | zero => rfl
    | succ k ih =>
      show lenTo rs (rs.length + k) + (rw_ rs (rs.length + k)).xs.length = _
      have : rw_ rs (rs.length + k) = ⟨none, 0, []⟩ := by simp [rw_, List.getD_eq_getElem?_getD, List.getElem?_eq_none (show rs.length ≤ rs.length + k by omega)]
      rw [this, ih]; rfl
  rcases Nat.le_total n rs.length with h | h
  · have := mono n (rs.length - n); rwa [show n + (rs.length - n) = rs.length from by omega] at this
  · have := stop (n - rs.length); rw [show rs.length + (n - rs.length) = n from by omega] at this; omega
end
end Go.Proofs.Ytfhhggcdmgjbcaa.Sx
