/-
  A part of the walk of the seat: laws of a small proof system, and contracts of functions, each proved. Conditions: as each theorem says.
-/
import Derived.Test.YtfhhggcdmgjbcaaSxArr
import Derived.Laws.BytesArg
namespace Go.Proofs.Ytfhhggcdmgjbcaa.Sx
open Go Go.RowKit

section
variable {X : Cx} {ops : Array Oper} {i k : Nat} {E : Env} {S : List Item} {Q : Exit → Act → World → Prop} {c : Code}
theorem pv_lookup_ok {t kt et : TypeId} {x y : Operand} (κ : KeyKind) {r : Nat} {l : List (κ.K × Int)} {a : κ.K} (j : Nat) (hx : E.op x = some (.map (some r))) (hy : E.op y = some (κ.enc a))
    (ht : mapT X.P t = some (kt, et)) (hk : X.P.underlying kt = some κ.d) (hz : zeroT X.P et = some (.int .i64 0)) (hj : S[j]? = some (mapItem κ r l)) :
    PV X E S (.lookup t x y true) (.tuple #[.int .i64 ((look l a).getD 0), .bool (look l a).isSome]) := by
  intro ac w o ha hw ho
  obtain ⟨es, clock, h1, h2⟩ := hw.at_ j hj
  unfold execOp; rw [ho]
  simp only [ha.eval hx, ha.eval hy]
  unfold Instr.lookup
  obtain ⟨f1, f2⟩ := findNow_look κ a es.toList l 0 h2
  have hg : (getObj r).run X.P w = .ok (.map es clock) w := by simp [getObj, Sem.run, h1]
  have hck := κ.plain X.P w kt es.isEmpty a hk
  simp only [Sem.run_bind, Sem.run_pure, run_underlying (mapT_spec ht), Result.andThen_ok, hg, hck, Instr.findKey, run_underlying hk]
  cases hl : look l a with
  | none =>
    rw [f1 hl]
    simp [run_zero hz]
  | some v =>
    obtain ⟨jj, h3, _⟩ := f2 v hl
    rw [h3]
    simp

theorem rg_insert {t kt et : TypeId} {x y z : Operand} {g : Option (Nat × Bool)} (κ : KeyKind) {r : Nat} {l : List (κ.K × Int)} {a : κ.K} {v : Int} (j : Nat) (ho : opAt ops i = some (none, .insert t x y z, g))
    (hc : (calm (.insert t x y z) && Nat.blt i k && (says ops E g == some true)) = true) (hx : E.op x = some (.map (some r))) (hy : E.op y = some (κ.enc a)) (hzv : E.op z = some (.int .i64 v))
    (ht : mapT X.P t = some (kt, et)) (hk : X.P.underlying kt = some κ.d) (hj : S[j]? = some (mapItem κ r l))
    (h : Rg X ops (i + 1) k E (S.set j (mapItem κ r (upd l a v))) Q) : Rg X ops i k E S Q := by
  refine Rg.quiet ho hc fun ac w o ha hw hop => ?_
  obtain ⟨es, clock, h1, h2⟩ := hw.at_ j hj
  obtain ⟨f1, f2⟩ := findNow_look κ a es.toList l 0 h2
  have hg : (getObj r).run X.P w = .ok (.map es clock) w := by simp [getObj, Sem.run, h1]
  have hck := κ.plain X.P w kt false a hk
  have hset : ∀ o', (setObj r o').run X.P w = .ok () { w with heap := w.heap.setIfInBounds r o' } := fun o' => by simp [setObj, Sem.run, h1]
  have hitem : ∀ (es' : Array MapEntry) (clock' : Nat), es'.toList.map (fun e => (e.key, e.val)) = (upd l a v).map (fun x => (κ.enc x.1, Value.int .i64 x.2)) →
      Heap X.w0 (S.set j (mapItem κ r (upd l a v))) { w with heap := w.heap.setIfInBounds r (.map es' clock') } := by
    intro es' clock' he
    have hlow : r < w.heap.size := (Array.getElem?_eq_some_iff.1 h1).1
    refine hw.setI j hj _ rfl rfl rfl (by simp) (fun q hq => .inl hq) ⟨es', clock', by simp [hlow], he⟩ (fun q _ hq => ?_)
    have hne : r ≠ q := fun e => hq e.symm
    exact Array.getElem?_setIfInBounds_ne hne
  cases hl : look l a with
  | none =>
    refine ⟨_, _, ?_, hitem (es.push { key := κ.enc a, val := .int .i64 v, born := clock }) (clock + 1) ?_, h⟩
    · unfold execOp; rw [hop]
      simp only [ha.eval hx, ha.eval hy, ha.eval hzv]
      unfold Instr.mapUpdate
      simp only [Sem.run_bind, run_underlying (mapT_spec ht), Result.andThen_ok, hg, hck, Instr.findKey, run_underlying hk, f1 hl, Sem.run_pure, hset]
    · rw [upd_new l a v hl]
      simp [h2]
  | some u =>
    obtain ⟨jj, h3, e', h4, h5, h6⟩ := f2 u hl
    refine ⟨_, _, ?_, hitem (es.modify jj fun e => { e with key := κ.enc a, val := .int .i64 v }) clock ?_, h⟩
    · unfold execOp; rw [hop]
      simp only [ha.eval hx, ha.eval hy, ha.eval hzv]
      unfold Instr.mapUpdate
      have h4' : es[jj]? = some e' := by simpa using h4
      simp only [Sem.run_bind, run_underlying (mapT_spec ht), Result.andThen_ok, hg, hck, Instr.findKey, run_underlying hk, h3, Sem.run_pure, Nat.zero_add, h4', Option.map_some, Option.getD_some, h5, Instr.keyThatStays, κ.bits, if_true, hset]
    · rw [Array.toList_modify]; exact h6 v

/-! ### Arrays of structs -/
theorem pv_buildArr {t e sz n : TypeId} {parts : List (Nat × Operand)} {vs : List Value} {zv : Value} {cs : Array Value} (hx : Env.opsOf E (parts.map (·.2)) = some vs)
    (hz : zeroT X.P t = some zv) (ht : X.P.underlying t = some (.array n e)) (hs : szT X.P e = some sz)
    (hf : Instr.fill (fun i => some (i * sz, sz)) zv.cells ((parts.map (·.1)).zip vs) = some cs) : PV X E S (.build t parts.toArray) (.agg cs) := by
  intro a w o ha _ ho
  have hparts : (parts.toArray.map fun x => (x.1, a.eval x.2)).toList = (parts.map (·.1)).zip vs := by
    have := ha.evals hx
    rw [← this]
    simp only [List.map_toArray]
    rw [List.map_map, List.zip_map']
    rfl
  unfold execOp; rw [ho]
  simp only [Instr.build, Sem.run_bind, run_zero hz, Result.andThen_ok, run_underlying ht, hparts, run_szOf hs, hf, Sem.run_pure]
theorem pv_index_agg {t e sz n : TypeId} {x y : Operand} {q : IntKind} {m : Int} {cs cs' : Array Value} (hx : E.op x = some (.agg cs)) (hy : E.op y = some (.int q m)) (ht : X.P.underlying t = some (.array n e)) (hs : szT X.P e = some sz) (ha : isAggT X.P e = true)
    (h0 : 0 ≤ m) (h1 : m < n) (hc : cs.extract (m.toNat * sz) (m.toNat * sz + sz) = cs') : PV X E S (.index t x y) (.agg cs') := by
  intro a w o hk _ ho
  unfold execOp; rw [ho]
  simp [hk.eval hx, hk.eval hy, Instr.index, asIntOf, run_underlying ht, h0, h1, run_szOf hs, part, run_isAgg_t ha, hc]

/-! ### Memory that was there when the call began -/
theorem base_cell {w w' : World} {S : List Item} (hw : Heap w S w') (j : Nat) {b o : Nat} {cs : Array Value} {T : TypeId} {z : Nat × Nat} (hj : S[j]? = some (base w (Low w))) (hb : w.heap[b]? = some (.cells cs T z)) : w'.cell? ⟨b, o, none⟩ = cs[o]? := by
  have h1 := hw.at_ j hj b (Array.getElem?_eq_some_iff.1 hb).1
  rw [hb] at h1
  exact cell_blk h1 o
theorem pv_load_base {t : TypeId} {x : Operand} {b o : Nat} {cs : Array Value} {T : TypeId} {z : Nat × Nat} {v : Value} {w : World} (j : Nat) (hX : X.w0 = w) (hx : E.op x = some (.pointer (some ⟨b, o, none⟩))) (hj : S[j]? = some (base w (Low w))) (hb : w.heap[b]? = some (.cells cs T z))
    (ht : oneT X.P t = true) (hv : cs[o]? = some v) : PV X E S (.load t x) v :=
  pv_load hx ht fun w' hw => (base_cell (hX ▸ hw) j hj hb).trans hv
theorem pv_load_baseA {t : TypeId} {x : Operand} {b : Nat} {cs : Array Value} {T : TypeId} {z : Nat × Nat} {w : World} (j : Nat) (hX : X.w0 = w) (hx : E.op x = some (.pointer (some ⟨b, 0, none⟩))) (hj : S[j]? = some (base w (Low w))) (hb : w.heap[b]? = some (.cells cs T z))
    (ht : isAggT X.P t = true) (hs : szT X.P t = some cs.size) : PV X E S (.load t x) (.agg cs) :=
  pv_load_agg hx ht hs fun w' hw q _ => by rw [add_mk, base_cell (hX ▸ hw) j hj hb, Nat.zero_add]
/-- a whole element of a row -/
theorem pv_load_row {t : TypeId} {x : Operand} {b o sz n i : Nat} {p : Option Addr} {cs : Array Value} {F : World → Nat → Prop} {cell : Nat → Nat → Option Value} (hx : E.op x = some (.pointer (some ⟨b, o + i * sz, none⟩))) (hp : p = some ⟨b, o, none⟩) (hi : i < n)
    (ht : isAggT X.P t = true) (hs : szT X.P t = some cs.size) (hsz : cs.size = sz) (h : ∀ w, Heap X.w0 S w → RowsAt (F w) w sz p n cell) (hc : ∀ j, j < sz → cell i j = cs[j]?) : PV X E S (.load t x) (.agg cs) :=
  pv_load_agg hx ht hs fun w hw j hj => by rw [add_mk, (h w hw).cell b o hp i hi j (by omega), hc j (by omega)]

/-! ### Bytes as a string -/
def strOf (xs : List Int) : ByteArray := strOfNums xs
theorem pv_convert_str {s t e : TypeId} {x : Operand} {p : Option Addr} {c : Nat} {xs : List Int} (hx : E.op x = some (.slice p xs.length c)) (hs : X.P.underlying s = some (.slice e)) (he : X.P.underlying e = some (.int .u8)) (ht : X.P.underlying t = some .string)
    (h : ∀ w, Heap X.w0 S w → BytesAt (Low w) w p xs) (h0 : 0 < xs.length) : PV X E S (.convert s t x) (.string (strOf xs)) := by
  intro a w o ha hw ho
  have hB := h w hw
  obtain ⟨b, of, hp⟩ := hB.adr h0
  subst hp
  unfold execOp; rw [ho]
  have := run_convert_bytes_arg (P := X.P) w s e hs he b of xs.length c xs rfl (fun i hi => by
    have := hB.cell b of rfl i (by omega) 0 (by omega)
    rw [show of + i * 1 + 0 = of + i from by omega] at this
    rw [this]) t ht
  simp [ha.eval hx, this, strOf]
end

/-! ### What a tree's memory can be -/

structure EntryWf (e : Entry) : Prop where
  name : e.name.size ≤ 140737488355328
  node0 : -9223372036854775808 ≤ e.node
  node1 : e.node ≤ 9223372036854775807
  cookie0 : 0 ≤ e.cookie
  cookie1 : e.cookie ≤ 18446744073709551615
def U32 (x : Int) : Prop := 0 ≤ x ∧ x ≤ 4294967295
structure NodeWf (n : Node) : Prop where
  kind0 : 0 ≤ n.kind
  kind1 : n.kind ≤ 4294967295
  gen0 : 0 ≤ n.gen
  gen1 : n.gen ≤ 4294967295
  links0 : -9223372036854775808 ≤ n.links
  links1 : n.links ≤ 9223372036854775807
  parent0 : -9223372036854775808 ≤ n.parent
  parent1 : n.parent ≤ 9223372036854775807
  next0 : 0 ≤ n.next
  next1 : n.next ≤ 18446744073709551615
  target : n.target.size ≤ 140737488355328
  data : n.data.length ≤ 140737488355328
  list : n.list.length ≤ 140737488355328
  entry : ∀ i, EntryWf (en n.list i)
  u : U32 n.mode ∧ U32 n.user ∧ U32 n.group ∧ U32 n.rs ∧ U32 n.rn ∧ U32 n.ws ∧ U32 n.wn ∧ U32 n.ts ∧ U32 n.tn
  bytes : ∀ x ∈ n.data, 0 ≤ x ∧ x ≤ 255
  vb : ∀ x ∈ [n.verf.a0, n.verf.a1, n.verf.a2, n.verf.a3, n.verf.a4, n.verf.a5, n.verf.a6, n.verf.a7], 0 ≤ x ∧ x ≤ 255
structure NodesWf (ns : List Node) : Prop where
  len : ns.length ≤ 140737488355328
  node : ∀ i, NodeWf (nd ns i)
end Go.Proofs.Ytfhhggcdmgjbcaa.Sx
namespace Go.Proofs.Ytfhhggcdmgjbcaa.Sx
open Go Go.RowKit
theorem base_heap {w w' : World} {S : List Item} (hw : Heap w S w') (j : Nat) {b : Nat} {o : Obj} (hj : S[j]? = some (base w (Low w))) (hb : w.heap[b]? = some o) : w'.heap[b]? = some o :=
  (hw.at_ j hj b (Array.getElem?_eq_some_iff.1 hb).1).trans hb
end Go.Proofs.Ytfhhggcdmgjbcaa.Sx
namespace Go.Proofs.Ytfhhggcdmgjbcaa.Sx
open Go Go.RowKit
theorem pv_load_node {X : Cx} {E : Env} {S : List Item} {t : TypeId} {x : Operand} {b o i : Nat} {p : Option Addr} {ns : List Node} {as : List Loc} (hx : E.op x = some (.pointer (some ⟨b, o + i * 25, none⟩))) (hp : p = some ⟨b, o, none⟩) (hi : i < ns.length)
    (ht : isAggT X.P t = true) (hs : szT X.P t = some 25) (h : ∀ w, Heap X.w0 S w → NodesAt (Low w) w p ns as) : PV X E S (.load t x) (.agg ((nd ns i).cells (lc as i))) :=
  pv_load_row (F := Low) (n := ns.length) (cell := fun i j => ((nd ns i).cells (lc as i))[j]?) hx hp hi ht hs rfl (fun w hw => (h w hw).rows) (fun _ _ => rfl)
theorem pv_load_entry {X : Cx} {E : Env} {S : List Item} {t : TypeId} {x : Operand} {b o i : Nat} {p : Option Addr} {es : List Entry} (hx : E.op x = some (.pointer (some ⟨b, o + i * 3, none⟩))) (hp : p = some ⟨b, o, none⟩) (hi : i < es.length)
    (ht : isAggT X.P t = true) (hs : szT X.P t = some 3) (h : ∀ w, Heap X.w0 S w → EntriesAt (Low w) w p es) : PV X E S (.load t x) (.agg #[.string (en es i).name, .int .i64 (en es i).node, .int .u64 (en es i).cookie]) :=
  pv_load_row (F := Low) (n := es.length) (cell := fun i j => (#[.string (en es i).name, .int .i64 (en es i).node, .int .u64 (en es i).cookie] : Array Value)[j]?) hx hp hi ht hs rfl (fun w hw => h w hw) (fun _ _ => rfl)
end Go.Proofs.Ytfhhggcdmgjbcaa.Sx
namespace Go.Proofs.Ytfhhggcdmgjbcaa.Sx
open Go Go.RowKit
theorem nil_bytes {F : Nat → Prop} {w : World} : BytesAt F w none [] := ⟨fun h => by simp at h, fun _ _ h => by simp at h, fun _ _ _ i h => by simp at h⟩
/-- a row of nodes that hold nothing, out of a block -/
theorem blk_nodes {w0 w : World} {S : List Item} (hw : Heap w0 S w) (j : Nat) {b T : Nat} {z : Nat × Nat} {cs : Array Value} (ns : List Node) (hj : S[j]? = some (blk b (.cells cs T z)))
    (hc : ∀ i, i < ns.length → ∀ q, q < 25 → cs[i * 25 + q]? = ((nd ns i).cells Loc.zero)[q]?) (hd : ∀ i, i < ns.length → (nd ns i).data = [] ∧ (nd ns i).list = []) : NodesAt (Low w) w (some ⟨b, 0, none⟩) ns (List.replicate ns.length Loc.zero) := by
  have hlc : ∀ i, lc (List.replicate ns.length Loc.zero) i = Loc.zero := by
    intro i; unfold lc; rw [List.getD_eq_getElem?_getD, List.getElem?_replicate]; split <;> rfl
  have hb := hw.blk_at j hj
  have hlt := hw.blk_lt j hj
  refine ⟨⟨fun _ => ⟨b, 0, rfl⟩, fun b' o' _ hp => ?_, fun b' o' hp i hi q hq => ?_⟩, fun i hi => ?_, by simp⟩
  · simp only [Option.some.injEq, Addr.mk.injEq] at hp
    show b' < _
    omega
  · simp only [Option.some.injEq, Addr.mk.injEq, and_true] at hp
    obtain ⟨rfl, rfl⟩ := hp
    rw [cell_blk hb, Nat.zero_add]
    rw [hc i hi q hq, hlc]
  · obtain ⟨h1, h2⟩ := hd i hi
    rw [hlc]
    refine ⟨?_, ?_, by rw [h1]; exact Nat.zero_le _, by rw [h2]; exact Nat.zero_le _⟩
    · rw [h1]; exact ⟨fun h => by simp at h, fun _ _ h => by simp at h, fun _ _ _ i h => by simp at h⟩
    · rw [h2]; exact ⟨fun h => by simp at h, fun _ _ h => by simp at h, fun _ _ _ i h => by simp at h⟩
end Go.Proofs.Ytfhhggcdmgjbcaa.Sx
namespace Go.Proofs.Ytfhhggcdmgjbcaa.Sx
open Go Go.RowKit
theorem equal_bool {P : Program} {w : World} {t : TypeId} (a b : Bool) (h : P.underlying t = some .bool) : (Op.equal t (.bool a) (.bool b)).run P w = .ok (a == b) w := by
  unfold Op.equal
  rw [show Op.maxDepth = 9999 + 1 from rfl]
  unfold Op.equalIn
  rw [Sem.run_bind, run_underlying h]; rfl
theorem eqGuard_bool2 {P : Program} {w : World} {op : BinOp} {t : TypeId} {x y : Operand} {a b : Bool} : (eqGuard op t x y (.bool a) (.bool b)).run P w = .ok () w := by
  unfold eqGuard
  split <;> simp
theorem pv_eql_bool {X : Cx} {E : Env} {S : List Item} {t u : TypeId} {x y : Operand} {a b : Bool} (hx : E.op x = some (.bool a)) (hy : E.op y = some (.bool b)) (ht : X.P.underlying t = some .bool) : PV X E S (.binOp .eql t x y u) (.bool (a == b)) := by
  intro ac w o ha _ ho
  unfold execOp; rw [ho]
  simp [ha.eval hx, ha.eval hy, eqGuard_bool2, binOp, equal_bool a b ht]
theorem pv_neq_bool {X : Cx} {E : Env} {S : List Item} {t u : TypeId} {x y : Operand} {a b : Bool} (hx : E.op x = some (.bool a)) (hy : E.op y = some (.bool b)) (ht : X.P.underlying t = some .bool) : PV X E S (.binOp .neq t x y u) (.bool (!(a == b))) := by
  intro ac w o ha _ ho
  unfold execOp; rw [ho]
  simp [ha.eval hx, ha.eval hy, eqGuard_bool2, binOp, equal_bool a b ht]
end Go.Proofs.Ytfhhggcdmgjbcaa.Sx
