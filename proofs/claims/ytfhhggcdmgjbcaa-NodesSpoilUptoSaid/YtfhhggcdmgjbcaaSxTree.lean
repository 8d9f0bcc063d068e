/-
  A part of the walk of the seat: laws of a small proof system, and contracts of functions, each proved. Conditions: as each theorem says.
-/
import Derived.Test.YtfhhggcdmgjbcaaSxShort
namespace Go.Proofs.Ytfhhggcdmgjbcaa.Sx
open Go Go.RowKit

/-! ### Rows of nodes in memory of the call's own -/
def putL : List Value → Nat → List Value → List Value
  | l, _, [] => l
  | [], _, _ => []
  | _ :: l, 0, v :: vs => v :: putL l 0 vs
  | x :: l, o + 1, v :: vs => x :: putL l o (v :: vs)
theorem putL_nil (l : List Value) (o : Nat) : putL l o [] = l := by cases l <;> cases o <;> rfl
theorem putL_length : ∀ (l : List Value) (o : Nat) (vs : List Value), (putL l o vs).length = l.length
  | l, o, [] => by rw [putL_nil]
  | [], o, v :: vs => by cases o <;> rfl
  | _ :: l, 0, v :: vs => by simp [putL, putL_length l 0 vs]
  | _ :: l, o + 1, v :: vs => by simp [putL, putL_length l o (v :: vs)]
theorem putL_get : ∀ (l : List Value) (o : Nat) (vs : List Value) (j : Nat), o + vs.length ≤ l.length → (putL l o vs)[j]? = if o ≤ j ∧ j < o + vs.length then vs[j - o]? else l[j]?
  | l, o, [], j, _ => by
    rw [putL_nil, if_neg (by simp only [List.length_nil]; omega)]
  | [], o, v :: vs, j, h => by simp at h
  | x :: l, 0, v :: vs, j, h => by
    cases j with
    | zero => simp [putL]
    | succ j =>
      simp only [putL, List.getElem?_cons_succ]
      rw [putL_get l 0 vs j (by simp at h ⊢; omega)]
      simp only [List.length_cons, Nat.zero_add, Nat.zero_le, true_and, Nat.sub_zero, List.getElem?_cons_succ, Nat.add_lt_add_iff_right]
  | x :: l, o + 1, v :: vs, j, h => by
    cases j with
    | zero => simp [putL]
    | succ j =>
      simp only [putL, List.getElem?_cons_succ]
      rw [putL_get l o (v :: vs) j (by simp at h ⊢; omega)]
      simp only [Nat.add_le_add_iff_right, Nat.add_sub_add_right]
      by_cases h1 : o ≤ j ∧ j < o + (v :: vs).length
      · rw [if_pos h1, if_pos (by simp at h1 ⊢; omega)]
      · rw [if_neg h1, if_neg (by simp at h1 ⊢; omega)]

def flat (ns : List Node) (as : List Loc) : List Value := (List.range ns.length).flatMap fun i => ((nd ns i).cells (lc as i)).toList
theorem cells_len (n : Node) (a : Loc) : (n.cells a).toList.length = 25 := rfl
theorem flatMap_len {f : Nat → List Value} {z : Nat} (hf : ∀ i, (f i).length = z) (l : List Nat) : (l.flatMap f).length = l.length * z := by
  induction l with
  | nil => simp
  | cons x l ih => simp only [List.flatMap_cons, List.length_append, hf, ih, List.length_cons, Nat.add_mul]; omega
theorem flatMap_get {f : Nat → List Value} {z : Nat} (hf : ∀ i, (f i).length = z) : ∀ (l : List Nat) (i j : Nat), j < z → (l.flatMap f)[i * z + j]? = (l[i]?).bind fun x => (f x)[j]? := by
  intro l
  induction l with
  | nil => intro i j _; simp
  | cons x l ih =>
    intro i j hj
    rw [List.flatMap_cons]
    cases i with
    | zero => rw [List.getElem?_append_left (by rw [hf]; omega)]; simp
    | succ i =>
      rw [List.getElem?_append_right (by rw [hf, Nat.add_mul]; omega), hf, show (i + 1) * z + j - z = i * z + j by rw [Nat.add_mul]; omega, ih i j hj]
      simp
theorem flat_length (ns : List Node) (as : List Loc) : (flat ns as).length = ns.length * 25 := by
  unfold flat
  rw [flatMap_len (z := 25) (fun i => cells_len _ _), List.length_range]
theorem flat_get {ns : List Node} {as : List Loc} {i j : Nat} (hi : i < ns.length) (hj : j < 25) : (flat ns as)[i * 25 + j]? = ((nd ns i).cells (lc as i))[j]? := by
  unfold flat
  rw [flatMap_get (z := 25) (fun i => cells_len _ _) _ _ _ hj, List.getElem?_range hi]
  simp
theorem flat_ext {ns : List Node} {as : List Loc} {l : List Value} (hl : l.length = ns.length * 25) (h : ∀ i, i < ns.length → ∀ j, j < 25 → l[i * 25 + j]? = ((nd ns i).cells (lc as i))[j]?) : l = flat ns as := by
  apply List.ext_getElem?
  intro q
  by_cases hq : q < ns.length * 25
  · have h1 := h (q / 25) (by omega) (q % 25) (by omega)
    rw [← flat_get (by omega) (by omega), show q / 25 * 25 + q % 25 = q by omega] at h1
    exact h1
  · rw [List.getElem?_eq_none (by omega), List.getElem?_eq_none (by rw [flat_length]; omega)]
theorem nd_set {ns : List Node} {i k : Nat} {n : Node} (hi : i < ns.length) : nd (ns.set i n) k = if i = k then n else nd ns k := by
  unfold nd
  rw [List.getD_eq_getElem?_getD, List.getD_eq_getElem?_getD, List.getElem?_set]
  split
  · simp [hi]
  · rfl
theorem lc_set {as : List Loc} {i k : Nat} {a : Loc} (hi : i < as.length) : lc (as.set i a) k = if i = k then a else lc as k := by
  unfold lc
  rw [List.getD_eq_getElem?_getD, List.getD_eq_getElem?_getD, List.getElem?_set]
  split
  · simp [hi]
  · rfl
/-- cells of one node are turned -/
theorem flat_put {ns : List Node} {as : List Loc} {i f : Nat} {vs : List Value} {n' : Node} {a' : Loc} (hi : i < ns.length) (ha : as.length = ns.length) (hf : f + vs.length ≤ 25)
    (h : (n'.cells a').toList = putL ((nd ns i).cells (lc as i)).toList f vs) : putL (flat ns as) (i * 25 + f) vs = flat (ns.set i n') (as.set i a') := by
  have hil : i * 25 + 25 ≤ ns.length * 25 := by omega
  apply flat_ext
  · rw [putL_length, flat_length, List.length_set]
  · intro k hk j hj
    rw [List.length_set] at hk
    rw [putL_get _ _ _ _ (by rw [flat_length]; omega), nd_set hi, lc_set (by omega)]
    by_cases e : i = k
    · subst e
      rw [if_pos rfl, if_pos rfl, ← Array.getElem?_toList, h, putL_get _ _ _ _ (by rw [cells_len]; omega), flat_get hi hj]
      by_cases h1 : f ≤ j ∧ j < f + vs.length
      · rw [if_pos h1, if_pos (by omega), show i * 25 + j - (i * 25 + f) = j - f by omega]
      · rw [if_neg h1, if_neg (by omega), Array.getElem?_toList]
    · rw [if_neg e, if_neg e, if_neg (by omega), flat_get hk hj]
theorem flat_nil (as : List Loc) : flat [] as = [] := rfl
theorem flat_take_len {ns : List Node} {as : List Loc} {n : Nat} (h : (flat ns as).length = n * 25) : ns.length = n := by rw [flat_length] at h; omega

/-! ### What the nodes hold -/
/-- bytes in blocks of G, as it is now, or in the memory that there was -/
def InB (o : Option World) (G : Nat → Prop) (w : World) (p : Option Addr) (xs : List Int) : Prop := BytesAt G w p xs ∨ ∃ w0, o = some w0 ∧ BytesAt (Low w0) w0 p xs
def InE (o : Option World) (G : Nat → Prop) (w : World) (p : Option Addr) (es : List Entry) : Prop := EntriesAt G w p es ∨ ∃ w0, o = some w0 ∧ EntriesAt (Low w0) w0 p es
structure NodeIn (o : Option World) (G : Nat → Prop) (w : World) (n : Node) (a : Loc) : Prop where
  data : InB o G w a.dA n.data
  list : InE o G w a.lA n.list
  dcap : n.data.length ≤ a.dCap
  lcap : n.list.length ≤ a.lCap
theorem NodeIn.keep {o : Option World} {G G' : Nat → Prop} {w w' : World} {n : Node} {a : Loc} (h : NodeIn o G w n a) (hk : ∀ k, G k → w'.heap[k]? = w.heap[k]?) (hG : ∀ k, G k → G' k) : NodeIn o G' w' n a :=
  ⟨h.data.imp (fun h => h.keep hk hG) id, h.list.imp (fun h => h.keep hk hG) id, h.dcap, h.lcap⟩
def dataI (o : Option World) (G : Nat → Prop) (ns : List Node) (as : List Loc) : Item :=
  ⟨G, fun w => as.length = ns.length ∧ ∀ i, i < ns.length → NodeIn o G w (nd ns i) (lc as i), fun _ _ hk h => ⟨h.1, fun i hi => (h.2 i hi).keep hk fun _ h => h⟩⟩
theorem NodeIn.at_ {o : Option World} {G : Nat → Prop} {w : World} {n : Node} {a : Loc} (h : NodeIn o G w n a) (hG : ∀ k, G k → k < w.heap.size) (ho : ∀ w0, o = some w0 → w0.heap.size ≤ w.heap.size ∧ ∀ k, k < w0.heap.size → w.heap[k]? = w0.heap[k]?) : NodeAt (Low w) w n a := by
  refine ⟨?_, ?_, h.dcap, h.lcap⟩
  · rcases h.data with h | ⟨w0, e, h⟩
    · exact h.keep (fun _ _ => rfl) hG
    · obtain ⟨h1, h2⟩ := ho w0 e
      exact h.keep (fun k hk => h2 k hk) fun k hk => Nat.lt_of_lt_of_le hk h1
  · rcases h.list with h | ⟨w0, e, h⟩
    · exact h.keep (fun _ _ => rfl) hG
    · obtain ⟨h1, h2⟩ := ho w0 e
      exact h.keep (fun k hk => h2 k hk) fun k hk => Nat.lt_of_lt_of_le hk h1
theorem Heap.baseLe {w0 w : World} {S : List Item} (h : Heap w0 S w) (j : Nat) (hj : S[j]? = some (base w0 (Low w0))) : w0.heap.size ≤ w.heap.size ∧ ∀ k, k < w0.heap.size → w.heap[k]? = w0.heap[k]? :=
  ⟨(h.base_below j hj).size, fun k hk => h.at_ j hj k hk⟩
theorem own_rows {w0 w : World} {S : List Item} (hw : Heap w0 S w) (j : Nat) {p : Option Addr} {n c : Nat} {ns : List Node} {as : List Loc} (hj : S[j]? = some (own 44 25 p n c (flat ns as))) :
    RowsAt (Low w) w 25 p ns.length fun i j => ((nd ns i).cells (lc as i))[j]? := by
  rcases hw.at_ j hj with ⟨h1, h2, _, h4⟩ | ⟨b, rest, h1, h2, h3, _⟩
  · have : ns.length = 0 := flat_take_len (n := 0) (by rw [h4]; rfl)
    rw [this]; exact ⟨fun h => by omega, fun _ _ h => by omega, fun _ _ _ i h => by omega⟩
  · refine ⟨fun _ => ⟨b, 0, h1⟩, fun b' o' _ hp => ?_, fun b' o' hp i hi q hq => ?_⟩
    · rw [h1] at hp
      simp only [Option.some.injEq, Addr.mk.injEq] at hp
      have := hw.lt j hj (k := b) h1
      show b' < _
      omega
    · rw [h1] at hp
      simp only [Option.some.injEq, Addr.mk.injEq, and_true] at hp
      obtain ⟨rfl, rfl⟩ := hp
      have hlt : i * 25 + q < (flat ns as).length := by rw [flat_length]; omega
      rw [cell_blk h2, show 0 + i * 25 + q = i * 25 + q from by omega]
      simp only [List.getElem?_toArray]
      rw [List.getElem?_append_left hlt, flat_get hi hq]
/-- a tree in memory of the call's own -/
theorem own_tree {w0 w : World} {S : List Item} (hw : Heap w0 S w) (j j2 : Nat) {o : Option World} {G : Nat → Prop} {p : Option Addr} {n c : Nat} {ns : List Node} {as : List Loc} (hj : S[j]? = some (own 44 25 p n c (flat ns as)))
    (hj2 : S[j2]? = some (dataI o G ns as)) (ho : ∀ w1, o = some w1 → w1.heap.size ≤ w.heap.size ∧ ∀ k, k < w1.heap.size → w.heap[k]? = w1.heap[k]?) : NodesAt (Low w) w p ns as :=
  ⟨own_rows hw j hj, fun i hi => ((hw.at_ j2 hj2).2 i hi).at_ (fun k hk => hw.lt j2 hj2 hk) ho, (hw.at_ j2 hj2).1⟩

/-! ### Memory told otherwise -/
theorem Heap.turn {w0 w : World} {S : List Item} {it it' : Item} (h : Heap w0 (it :: S) w) (hfp : ∀ k, it'.fp k → it.fp k) (hok : it.ok w → it'.ok w) : Heap w0 (it' :: S) w := by
  refine ⟨h.os, h.tape, h.output, fun x hx => ?_, fun x hx k hk => ?_, ?_⟩
  · rcases List.mem_cons.1 hx with rfl | hx
    · exact hok (h.ok it (by simp))
    · exact h.ok x (by simp [hx])
  · rcases List.mem_cons.1 hx with rfl | hx
    · exact h.low it (by simp) k (hfp k hk)
    · exact h.low x (by simp [hx]) k hk
  · obtain ⟨h1, h2⟩ := List.pairwise_cons.1 h.apart
    exact List.pairwise_cons.2 ⟨fun x hx k hk => h1 x hx k (hfp k hk), h2⟩
theorem Heap.fuse {w0 w : World} {S : List Item} {a b it : Item} (h : Heap w0 (a :: b :: S) w) (hfp : ∀ k, it.fp k → a.fp k ∨ b.fp k) (hok : a.ok w → b.ok w → it.ok w) : Heap w0 (it :: S) w := by
  obtain ⟨h1, h2⟩ := List.pairwise_cons.1 h.apart
  obtain ⟨h3, h4⟩ := List.pairwise_cons.1 h2
  refine ⟨h.os, h.tape, h.output, fun x hx => ?_, fun x hx k hk => ?_, List.pairwise_cons.2 ⟨fun x hx k hk => ?_, h4⟩⟩
  · rcases List.mem_cons.1 hx with rfl | hx
    · exact hok (h.ok a (by simp)) (h.ok b (by simp))
    · exact h.ok x (by simp [hx])
  · rcases List.mem_cons.1 hx with rfl | hx
    · rcases hfp k hk with hk | hk
      · exact h.low a (by simp) k hk
      · exact h.low b (by simp) k hk
    · exact h.low x (by simp [hx]) k hk
  · rcases hfp k hk with hk | hk
    · exact h1 x (by simp [hx]) k hk
    · exact h3 x hx k hk
section
variable {X : Cx} {ops : Array Oper} {i k : Nat} {E : Env} {S : List Item} {Q : Exit → Act → World → Prop} {c : Code}
theorem Rg.heap {S' : List Item} (h1 : ∀ w, Heap X.w0 S w → Heap X.w0 S' w) (h : Rg X ops i k E S' Q) : Rg X ops i k E S Q := fun a w ha hw => h a w ha (h1 w hw)
theorem Ev.heap {S' : List Item} (h1 : ∀ w, Heap X.w0 S w → Heap X.w0 S' w) (h : Ev X c E S' Q) : Ev X c E S Q := fun a w ha hw => h a w ha (h1 w hw)
theorem At.heap {e : Exit} {S' : List Item} (h1 : ∀ w, Heap X.w0 S w → Heap X.w0 S' w) (h : At X e E S' Q) : At X e E S Q := fun a w ha hw => h a w ha (h1 w hw)
theorem Rg.fac {φ : Prop} (hφ : ∀ w, Heap X.w0 S w → φ) (h : φ → Rg X ops i k E S Q) : Rg X ops i k E S Q := fun a w ha hw => h (hφ w hw) a w ha hw
theorem Ev.fac {φ : Prop} (hφ : ∀ w, Heap X.w0 S w → φ) (h : φ → Ev X c E S Q) : Ev X c E S Q := fun a w ha hw => h (hφ w hw) a w ha hw
theorem At.fac {e : Exit} {φ : Prop} (hφ : ∀ w, Heap X.w0 S w → φ) (h : φ → At X e E S Q) : At X e E S Q := fun a w ha hw => h (hφ w hw) a w ha hw
theorem own_some {w0 w : World} {S : List Item} (hw : Heap w0 S w) (j : Nat) {T sz : Nat} {p : Option Addr} {n c : Nat} {xs : List Value} (hj : S[j]? = some (own T sz p n c xs)) (hn : 0 < n) : ∃ b, p = some ⟨b, 0, none⟩ := by
  rcases hw.at_ j hj with ⟨_, h2, _⟩ | ⟨b, _, h1, _⟩
  · omega
  · exact ⟨b, h1⟩
theorem own_cap {w0 w : World} {S : List Item} (hw : Heap w0 S w) (j : Nat) {T sz : Nat} {p : Option Addr} {n c : Nat} {xs : List Value} (hj : S[j]? = some (own T sz p n c xs)) (hz : 0 < sz) : n ≤ c := by
  rcases hw.at_ j hj with ⟨_, h2, _⟩ | ⟨b, rest, _, _, h3, h4⟩
  · omega
  · rw [List.length_append, h3] at h4
    exact Nat.le_of_mul_le_mul_right (by omega : n * sz ≤ c * sz) hz

/-- a store of any value into memory of the call's own -/
theorem rg_store_ownV {t T : TypeId} {x y : Operand} {g : Option (Nat × Bool)} {sz b o n cc : Nat} {xs xs' : List Value} {v : Value} (j : Nat) (ho : opAt ops i = some (none, .store t x y, g))
    (hc : (calm (.store t x y) && Nat.blt i k && (says ops E g == some true)) = true) (hx : E.op x = some (.pointer (some ⟨b, o, none⟩))) (hy : E.op y = some v)
    (hj : S[j]? = some (own T sz (some ⟨b, 0, none⟩) n cc xs)) (hs : szT X.P t = some v.cells.size) (hone : (v.cells.toList.all (·.oneCell')) = true) (hle : o + v.cells.size ≤ xs.length) (hxs : putL xs o v.cells.toList = xs')
    (h : Rg X ops (i + 1) k E (S.set j (own T sz (some ⟨b, 0, none⟩) n cc xs')) Q) : Rg X ops i k E S Q := by
  subst hxs
  refine Rg.quiet ho hc fun a w op ha hw hop => ?_
  rcases hw.at_ j hj with ⟨h1, _⟩ | ⟨b', rest, h1, h2, h3, h4⟩
  · cases h1
  · simp only [Option.some.injEq, Addr.mk.injEq, and_true] at h1
    subst h1
    have hst := run_storeVar (P := X.P) (ty := t) (v := v) (o := o) h2 hs (by simp; omega) hone
    have e : putCells (xs ++ rest).toArray o v.cells.toList = (putL xs o v.cells.toList ++ rest).toArray := by
      apply Array.ext_getElem?
      intro q
      rw [putCells_get]
      simp only [List.size_toArray, List.getElem?_toArray, List.length_append, Array.length_toList]
      by_cases h5 : q < xs.length
      · rw [List.getElem?_append_left h5, List.getElem?_append_left (by rw [putL_length]; exact h5), putL_get _ _ _ _ (by simpa using hle)]
        simp only [Array.length_toList]
        by_cases h6 : o ≤ q ∧ q < o + v.cells.size
        · rw [if_pos ⟨h6.1, h6.2, by omega⟩, if_pos h6]
        · rw [if_neg (by omega), if_neg h6]
      · rw [if_neg (by omega), List.getElem?_append_right (by omega), List.getElem?_append_right (by rw [putL_length]; omega), putL_length]
    rw [e] at hst
    refine ⟨{ w with heap := w.heap.setIfInBounds b (.cells (putL xs o v.cells.toList ++ rest).toArray T (0, 0)) }, _, ?_, ?_, h⟩
    · unfold execOp; rw [hop]
      simp [ha.eval hx, ha.eval hy, Instr.storeAt, Instr.sureAddr, hst]
    · refine hw.setI j hj _ rfl rfl rfl (by simp) (fun q hq => .inl hq) (.inr ⟨b, rest, rfl, by simp [(Array.getElem?_eq_some_iff.1 h2).1], by rw [putL_length]; exact h3, by rw [List.length_append, putL_length, ← List.length_append]; exact h4⟩) (fun q _ hq => ?_)
      refine Array.getElem?_setIfInBounds_ne (fun e => hq ?_)
      subst e; rfl
/-- what rows hold, one behind the other -/
theorem firstCells_nodes {F : Nat → Prop} {w : World} {P : Program} {p : Option Addr} {ns : List Node} {as : List Loc} (h : NodesAt F w p ns as) {n' c' : Nat} :
    (Builtin.firstCells 25 ns.length (.slice p n' c')).run P w = .ok (flat ns as).toArray w := by
  by_cases h0 : 0 < ns.length
  · obtain ⟨b, o, hp⟩ := h.rows.adr h0
    refine firstCells_of (b := b) (o := o) (flat_length ns as) (fun _ => hp) fun q hq => ?_
    rw [flat_length] at hq
    have := h.rows.cell b o hp (q / 25) (by omega) (q % 25) (by omega)
    rw [show o + q / 25 * 25 + q % 25 = o + q by omega] at this
    rw [this, ← flat_get (by omega) (by omega), show q / 25 * 25 + q % 25 = q by omega]
  · have : ns = [] := by cases ns <;> simp_all
    subst this
    exact firstCells_of (b := 0) (o := 0) rfl (fun h => by simp at h) fun q hq => by simp [flat] at hq
theorem cells_one (n : Node) (a : Loc) : ((n.cells a).toList.all (·.oneCell')) = true := rfl
theorem flatMap_one {f : Nat → List Value} (hf : ∀ i, ((f i).all (·.oneCell')) = true) (l : List Nat) : ((l.flatMap f).all (·.oneCell')) = true := by
  induction l with
  | nil => rfl
  | cons x l ih => simp only [List.flatMap_cons, List.all_append, hf, ih, Bool.and_self]
theorem flat_one (ns : List Node) (as : List Loc) : ((flat ns as).all (·.oneCell')) = true := flatMap_one (fun _ => cells_one _ _) _

/-! Entries -/
def entC (e : Entry) : List Value := [.string e.name, .int .i64 e.node, .int .u64 e.cookie]
def flatE (es : List Entry) : List Value := es.flatMap entC
theorem flatE_len (es : List Entry) : (flatE es).length = es.length * 3 := by
  induction es with
  | nil => rfl
  | cons e es ih => simp only [flatE, List.flatMap_cons, List.length_append, List.length_cons] at ih ⊢; rw [ih]; simp [entC]; omega
theorem flatE_get {es : List Entry} {i j : Nat} (hi : i < es.length) (hj : j < 3) : (flatE es)[i * 3 + j]? = (entC (en es i))[j]? := by
  induction es generalizing i with
  | nil => simp at hi
  | cons e es ih =>
    simp only [flatE, List.flatMap_cons]
    cases i with
    | zero => rw [List.getElem?_append_left (by simp [entC]; omega)]; simp [en]
    | succ i =>
      rw [List.getElem?_append_right (by simp [entC]; omega), show (i + 1) * 3 + j - (entC e).length = i * 3 + j by simp [entC]; omega]
      have := ih (i := i) (by simpa using hi)
      simp only [flatE] at this
      rw [this]; simp [en]
theorem flatE_app (xs ys : List Entry) : flatE xs ++ flatE ys = flatE (xs ++ ys) := by simp [flatE]
theorem flatE_one (es : List Entry) : ((flatE es).all (·.oneCell')) = true := by
  induction es with
  | nil => rfl
  | cons e es ih => simp only [flatE, List.flatMap_cons, List.all_append] at ih ⊢; rw [ih]; rfl
theorem firstCells_entries {F : Nat → Prop} {w : World} {P : Program} {p : Option Addr} {es : List Entry} (h : EntriesAt F w p es) {n' c' : Nat} :
    (Builtin.firstCells 3 es.length (.slice p n' c')).run P w = .ok (flatE es).toArray w := by
  by_cases h0 : 0 < es.length
  · obtain ⟨b, o, hp⟩ := h.adr h0
    refine firstCells_of (b := b) (o := o) (flatE_len es) (fun _ => hp) fun q hq => ?_
    rw [flatE_len] at hq
    have := h.cell b o hp (q / 3) (by omega) (q % 3) (by omega)
    rw [show o + q / 3 * 3 + q % 3 = o + q by omega] at this
    rw [this]
    have h2 := flatE_get (es := es) (i := q / 3) (j := q % 3) (by omega) (by omega)
    rw [show q / 3 * 3 + q % 3 = q by omega] at h2
    rw [h2]; simp [entC]
  · have : es = [] := by cases es <;> simp_all
    subst this
    exact firstCells_of (b := 0) (o := 0) rfl (fun h => by simp at h) fun q hq => by simp [flatE] at hq
/-- an own slice of entries -/
theorem own_entries {w : World} {p : Option Addr} {n c : Nat} {es : List Entry} (h : (own 50 3 p n c (flatE es)).ok w) : EntriesAt (fun k => p = some ⟨k, 0, none⟩) w p es := by
  rcases h with ⟨h1, h2, _, h4⟩ | ⟨b, rest, h1, h2, h3, _⟩
  · have : es.length = 0 := by have := flatE_len es; rw [h4] at this; simp at this; omega
    have : es = [] := by cases es <;> simp_all
    subst this
    exact ⟨fun h => by simp at h, fun _ _ h => by simp at h, fun _ _ _ i h => by simp at h⟩
  · refine ⟨fun _ => ⟨b, 0, h1⟩, fun b' o' hl hp => ?_, fun b' o' hp i hi q hq => ?_⟩
    · rw [h1] at hp ⊢
      simp only [Option.some.injEq, Addr.mk.injEq, and_true] at hp ⊢
      exact hp.1
    · rw [h1] at hp
      simp only [Option.some.injEq, Addr.mk.injEq, and_true] at hp
      obtain ⟨rfl, rfl⟩ := hp
      have hlt : i * 3 + q < (flatE es).length := by rw [flatE_len]; omega
      rw [cell_blk h2, show 0 + i * 3 + q = i * 3 + q from by omega]
      simp only [List.getElem?_toArray]
      rw [List.getElem?_append_left hlt, flatE_get hi hq]; simp [entC]
theorem own_bytesI {w : World} {p : Option Addr} {n c : Nat} {xs : List Int} (h : (own 5 1 p n c (bv xs)).ok w) : BytesAt (fun k => p = some ⟨k, 0, none⟩) w p xs := by
  rcases h with ⟨h1, h2, _, h4⟩ | ⟨b, rest, h1, h2, h3, _⟩
  · have : xs = [] := by simpa [bv] using h4
    subst this
    exact ⟨fun h => by simp at h, fun _ _ h => by simp at h, fun _ _ _ i h => by simp at h⟩
  · refine ⟨fun _ => ⟨b, 0, h1⟩, fun b' o' _ hp => ?_, fun b' o' hp i hi jj hjj => ?_⟩
    · rw [h1] at hp ⊢
      simp only [Option.some.injEq, Addr.mk.injEq, and_true] at hp ⊢
      exact hp.1
    · rw [h1] at hp
      simp only [Option.some.injEq, Addr.mk.injEq, and_true] at hp
      obtain ⟨rfl, rfl⟩ := hp
      rw [cell_blk h2, show 0 + i * 1 + jj = i from by omega]
      simp only [List.getElem?_toArray]
      rw [List.getElem?_append_left (by simpa [bv] using hi)]
      simp [bv, List.getD_eq_getElem?_getD, List.getElem?_eq_getElem hi]
end
end Go.Proofs.Ytfhhggcdmgjbcaa.Sx
namespace Go.Proofs.Ytfhhggcdmgjbcaa.Sx
open Go Go.RowKit
section
variable {X : Cx} {E : Env} {S : List Item}
/-- a node of rows of the call's own; a cell of it -/
theorem pv_load_ownnode {t : TypeId} {x : Operand} {b i n c : Nat} {ns : List Node} {al : List Loc} (j : Nat) (hx : E.op x = some (.pointer (some ⟨b, 0 + i * 25, none⟩))) (hj : S[j]? = some (own 44 25 (some ⟨b, 0, none⟩) n c (flat ns al))) (hi : i < ns.length)
    (ht : isAggT X.P t = true) (hs : szT X.P t = some 25) : PV X E S (.load t x) (.agg ((nd ns i).cells (lc al i))) :=
  pv_load_agg hx ht hs fun w hw q hq => by
    have hq' : q < 25 := hq
    rw [add_mk, Nat.zero_add]
    have h1 := flat_get (as := al) hi hq'
    have h2 : ((nd ns i).cells (lc al i))[q]? = some (((nd ns i).cells (lc al i))[q]'hq) := Array.getElem?_eq_getElem hq
    rw [h2] at h1 ⊢
    exact own_cell hw j hj h1
theorem pv_load_ownfield {t : TypeId} {x : Operand} {b i f n c : Nat} {ns : List Node} {al : List Loc} {v : Value} (j : Nat) (hx : E.op x = some (.pointer (some ⟨b, 0 + i * 25 + f, none⟩))) (hj : S[j]? = some (own 44 25 (some ⟨b, 0, none⟩) n c (flat ns al))) (hi : i < ns.length)
    (ht : oneT X.P t = true) (hv : nthA ((nd ns i).cells (lc al i)) f = some v) : PV X E S (.load t x) v :=
  pv_load hx ht fun w hw => by
    rw [nthA_eq] at hv
    have hf : f < 25 := (Array.getElem?_eq_some_iff.1 hv).1
    have h1 := flat_get (as := al) hi hf
    rw [hv, show i * 25 + f = 0 + i * 25 + f by omega] at h1
    exact own_cell hw j hj h1
end
/-- one node of a tree turned, in rows of the call's own -/
theorem turned_here {w0 w : World} {S : List Item} (hw : Heap w0 S w) (j jb : Nat) {p p' : Option Addr} {n c k : Nat} {ns : List Node} {al : List Loc} {n' : Node} {a' : Loc} (hj : S[j]? = some (own 44 25 p' n c (flat (ns.set k n') (al.set k a')))) (hjb : S[jb]? = some (base w0 (Low w0)))
    (hT : NodesAt (Low w0) w0 p ns al) (hk : k < ns.length) (hn : NodeAt (Low w) w n' a') : NodesAt (Low w) w p' (ns.set k n') (al.set k a') := by
  obtain ⟨h1, h2⟩ := hw.baseLe jb hjb
  refine ⟨own_rows hw j hj, fun i hi => ?_, by simp [hT.len]⟩
  rw [List.length_set] at hi
  rw [nd_set hk, lc_set (by rw [hT.len]; exact hk)]
  by_cases e : k = i
  · rw [if_pos e, if_pos e]; exact hn
  · rw [if_neg e, if_neg e]
    exact (hT.node i hi).keep (fun q hq => h2 q hq) fun q hq => Nat.lt_of_lt_of_le hq h1
theorem nodes_wf_set {ns : List Node} {k : Nat} {n' : Node} (h : NodesWf ns) (hn : NodeWf n') : NodesWf (ns.set k n') := by
  refine ⟨by rw [List.length_set]; exact h.len, fun i => ?_⟩
  by_cases hk : k < ns.length
  · rw [nd_set hk]; split
    · exact hn
    · exact h.node i
  · have : ns.set k n' = ns := List.set_eq_of_length_le (by omega)
    rw [this]; exact h.node i
end Go.Proofs.Ytfhhggcdmgjbcaa.Sx
