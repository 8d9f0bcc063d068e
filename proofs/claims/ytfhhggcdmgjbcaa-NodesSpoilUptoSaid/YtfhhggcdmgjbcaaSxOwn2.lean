/-
  A part of the walk of the seat: laws of a small proof system, and contracts of functions, each proved. Conditions: as each theorem says.
-/
import Derived.Test.YtfhhggcdmgjbcaaSxOwn
namespace Go.Proofs.Ytfhhggcdmgjbcaa.Sx
open Go Go.RowKit

section
variable {X : Cx} {ops : Array Oper} {i k : Nat} {E : Env} {S : List Item} {Q : Exit → Act → World → Prop}

theorem own_cell {w0 w : World} {S : List Item} (hw : Heap w0 S w) (j : Nat) {T : TypeId} {sz : Nat} {b n c : Nat} {xs : List Value} (hj : S[j]? = some (own T sz (some ⟨b, 0, none⟩) n c xs)) {o : Nat} {v : Value} (hv : xs[o]? = some v) :
    w.cell? ⟨b, o, none⟩ = some v := by
  rcases hw.at_ j hj with ⟨h1, _⟩ | ⟨b', rest, h1, h2, _, _⟩
  · cases h1
  · simp only [Option.some.injEq, Addr.mk.injEq, and_true] at h1
    subst h1
    rw [cell_blk h2]
    have := (List.getElem?_eq_some_iff.1 hv).1
    simp only [List.getElem?_toArray]
    rw [List.getElem?_append_left this]; exact hv
theorem pv_load_own {t T : TypeId} {x : Operand} {sz b o n c : Nat} {xs : List Value} {v : Value} (j : Nat) (hx : E.op x = some (.pointer (some ⟨b, o, none⟩)))
    (hj : S[j]? = some (own T sz (some ⟨b, 0, none⟩) n c xs)) (ht : oneT X.P t = true) (hv : xs[o]? = some v) : PV X E S (.load t x) v :=
  pv_load hx ht fun _ hw => own_cell hw j hj hv

theorem list_set_app (xs rest : List Value) (o : Nat) (v : Value) (h : o < xs.length) : (xs ++ rest).toArray.setIfInBounds o v = (xs.set o v ++ rest).toArray := by
  apply Array.ext_getElem?
  intro j
  by_cases e : o = j
  · subst e
    rw [Array.getElem?_setIfInBounds_self_of_lt (by simp; omega)]
    simp only [List.getElem?_toArray]
    rw [List.getElem?_append_left (by simpa using h), List.getElem?_set_self h]
  · rw [Array.getElem?_setIfInBounds_ne e]
    simp only [List.getElem?_toArray]
    by_cases h2 : j < xs.length
    · rw [List.getElem?_append_left h2, List.getElem?_append_left (by simpa using h2), List.getElem?_set_ne e]
    · rw [List.getElem?_append_right (by omega), List.getElem?_append_right (by simp; omega), List.length_set]

theorem rg_store_own {t T : TypeId} {x y : Operand} {g : Option (Nat × Bool)} {sz b o n c : Nat} {xs : List Value} {v : Value} (j : Nat) (ho : opAt ops i = some (none, .store t x y, g))
    (hc : (calm (.store t x y) && Nat.blt i k && (says ops E g == some true)) = true) (hx : E.op x = some (.pointer (some ⟨b, o, none⟩))) (hy : E.op y = some v)
    (hj : S[j]? = some (own T sz (some ⟨b, 0, none⟩) n c xs)) (hs : szT X.P t = some 1) (hv : v.cells = #[v]) (hone : v.oneCell' = true) (hle : o < xs.length)
    (h : Rg X ops (i + 1) k E (S.set j (own T sz (some ⟨b, 0, none⟩) n c (xs.set o v))) Q) : Rg X ops i k E S Q := by
  refine Rg.quiet ho hc fun a w op ha hw hop => ?_
  rcases hw.at_ j hj with ⟨h1, _⟩ | ⟨b', rest, h1, h2, h3, h4⟩
  · cases h1
  · simp only [Option.some.injEq, Addr.mk.injEq, and_true] at h1
    subst h1
    have hst := run_storeVar (P := X.P) (ty := t) (v := v) (o := o) h2 (by rw [hs, hv]; rfl) (by rw [hv]; simp; omega) (by rw [hv]; simpa using hone)
    rw [hv] at hst
    simp only [putCells] at hst
    rw [list_set_app xs rest o v hle] at hst
    refine ⟨{ w with heap := w.heap.setIfInBounds b (.cells (xs.set o v ++ rest).toArray T (0, 0)) }, _, ?_, ?_, h⟩
    · unfold execOp; rw [hop]
      simp [ha.eval hx, ha.eval hy, Instr.storeAt, Instr.sureAddr, hst]
    · refine hw.setI j hj _ rfl rfl rfl (by simp) (fun q hq => .inl hq) (.inr ⟨b, rest, rfl, by simp [(Array.getElem?_eq_some_iff.1 h2).1], by simpa using h3, by simpa using h4⟩) (fun q _ hq => ?_)
      refine Array.getElem?_setIfInBounds_ne (fun e => hq ?_)
      subst e; rfl

theorem firstCells_of {P : Program} {w : World} {sz m b o : Nat} {p : Option Addr} {n c : Nat} {ys : List Value} (hlen : ys.length = m * sz) (hp : 0 < m * sz → p = some ⟨b, o, none⟩) (h : ∀ i, i < ys.length → w.cell? ⟨b, o + i, none⟩ = ys[i]?) :
    (Builtin.firstCells sz m (.slice p n c)).run P w = .ok ys.toArray w := by
  by_cases h0 : 0 < m * sz
  · rw [hp h0]
    simp only [Builtin.firstCells]
    have := run_loadCells_list (P := P) w ⟨b, o, none⟩ ys (fun jj vv hv => by
      rw [add_mk, h jj (List.getElem?_eq_some_iff.1 hv).1, hv])
    rwa [hlen] at this
  · have e : m * sz = 0 := by omega
    have : ys = [] := by rw [e] at hlen; exact List.length_eq_zero_iff.1 hlen
    subst this
    cases p with
    | none => simp [Builtin.firstCells]
    | some a => simp [Builtin.firstCells, e, loadCells, loadCellsFrom]
theorem firstCells_own {w0 w : World} {S : List Item} (hw : Heap w0 S w) {P : Program} (j : Nat) {T : TypeId} {sz : Nat} {p : Option Addr} {n c : Nat} {xs : List Value} (hj : S[j]? = some (own T sz p n c xs)) {n' c' : Nat} :
    (Builtin.firstCells sz n (.slice p n' c')).run P w = .ok xs.toArray w := by
  rcases hw.at_ j hj with ⟨rfl, rfl, rfl, rfl⟩ | ⟨b, rest, rfl, h2, h3, _⟩
  · simp [Builtin.firstCells]
  · refine firstCells_of (b := b) (o := 0) h3 (fun _ => rfl) fun q hq => ?_
    rw [Nat.zero_add, cell_blk h2]
    simp only [List.getElem?_toArray]
    rw [List.getElem?_append_left hq]

/-- make, the length and the room one number -/
theorem rg_makeSlice {d : Nat} {t e sz : TypeId} {x y : Operand} {g : Option (Nat × Bool)} {L : Int} {zv : Value} (ho : opAt ops i = some (some d, .makeSlice t x y, g))
    (hc : (calm (.makeSlice t x y) && Nat.blt d X.N && Nat.blt i k && (says ops E g == some true)) = true) (hx : E.op x = some (.int .i64 L)) (hy : E.op y = some (.int .i64 L))
    (he : elemT X.P t = some (e, sz)) (hz : zeroT X.P e = some zv) (hzs : zv.cells = #[zv]) (hsz : sz = 1) (h0 : 0 ≤ L) (h1 : L ≤ 4294967296) (hb : bytesT X.P e ≤ 65536)
    (h : ∀ b, Rg X ops (i + 1) k ((d, .slice (some ⟨b, 0, none⟩) L.toNat L.toNat) :: E) (own e 1 (some ⟨b, 0, none⟩) L.toNat L.toNat (List.replicate L.toNat zv) :: S) Q) : Rg X ops i k E S Q := by
  subst hsz
  refine Rg.value ho hc fun a w o ha hw hop => ?_
  unfold elemT at he
  split at he
  · rename_i e' hu
    cases hs : szT X.P e' with
    | none => rw [hs] at he; cases he
    | some q =>
      rw [hs] at he
      simp only [Option.map_some, Option.some.injEq, Prod.mk.injEq] at he
      obtain ⟨rfl, rfl⟩ := he
      have hti : ∃ inf, X.P.info? e' = some inf ∧ inf.bytes = bytesT X.P e' := by
        unfold szT at hs
        cases hi : X.P.info? e' with
        | none => rw [hi] at hs; cases hs
        | some inf => exact ⟨inf, rfl, by simp [bytesT, hi]⟩
      obtain ⟨inf, hinf, hbytes⟩ := hti
      have hwr : IntKind.i64.wrap L = L := IntWalk.i64_in _ ⟨by omega, by omega⟩
      have hbig : (inf.bytes : Int) * L ≤ 281474976710656 := by
        have h3 : (inf.bytes : Int) ≤ 65536 := by omega
        have h4 : (inf.bytes : Int) * L ≤ 65536 * 4294967296 := Int.mul_le_mul h3 h1 h0 (by omega)
        omega
      have harr : ((Array.range L.toNat).map fun q => zv.cells[q % zv.cells.size]!) = (List.replicate L.toNat zv).toArray := by
        apply Array.ext
        · simp
        · intro q h5 h6
          simp only [Array.getElem_map, Array.getElem_range, List.getElem_toArray, List.getElem_replicate]
          simp [hzs, Nat.mod_one]
      refine ⟨.slice (some ⟨w.heap.size, 0, none⟩) L.toNat L.toNat, { w with heap := w.heap.push (.cells (List.replicate L.toNat zv).toArray e' (0, 0)) }, _, ?_, ?_, h w.heap.size⟩
      · unfold execOp; rw [hop]
        simp only [ha.eval hx, ha.eval hy]
        unfold Instr.makeSlice
        have hnb : ¬ (281474976710656 < (inf.bytes : Int) * L) := by omega
        have hL0 : ¬ L < 0 := by omega
        by_cases hz0 : L.toNat = 0
        · have hL : L = 0 := by omega
          subst hL
          simp [run_underlying hu, asInt, asIntOf, typeInfo_run hinf, hwr, run_szOf hs, newRow]
          exact congrArg (fun c => w.alloc (Obj.cells c e')) (Array.ext (by simp) (by simp))
        · simp [run_underlying hu, asInt, asIntOf, typeInfo_run hinf, hwr, run_szOf hs, hz0, newRow, hnb, hL0, run_zero hz, harr]
      · refine hw.newI _ rfl rfl rfl (by simp) (fun q hq => ?_) (.inr ⟨w.heap.size, [], rfl, by simp, by simp, by simp⟩) (fun q hq => by rw [Array.getElem?_push, if_neg (by omega)])
        have hq' : (some (⟨w.heap.size, 0, none⟩ : Addr)) = some ⟨q, 0, none⟩ := hq
        simp only [Option.some.injEq, Addr.mk.injEq, and_true] at hq'
        subst hq'; simp
  · cases he

/-! ### More values -/
/-- the byte at a place of a text -/
def sb (s : ByteArray) (i : Nat) : Int := ((s.data.toList.getD i 0).toNat : Int)
theorem sb_range (s : ByteArray) (i : Nat) : 0 ≤ sb s i ∧ sb s i ≤ 255 := by
  unfold sb
  have := (s.data.toList.getD i 0).toNat_lt
  omega
theorem pv_index_string {t : TypeId} {x y : Operand} {s : ByteArray} {q : IntKind} {n : Int} (hx : E.op x = some (.string s)) (hy : E.op y = some (.int q n)) (ht : isStringT X.P t = true) (h0 : 0 ≤ n) (h1 : n < s.size) :
    PV X E S (.index t x y) (.int .u8 (sb s n.toNat)) := by
  intro a w o ha _ ho
  unfold isStringT at ht
  split at ht
  · rename_i hu
    unfold execOp; rw [ho]
    have hlt : n.toNat < s.size := by omega
    have hge : s[n.toNat]? = some (s[n.toNat]'hlt) := by
      show (if h : _ then _ else _) = _
      rw [dif_pos hlt]
    have hb : sb s n.toNat = ((s[n.toNat]'hlt).toNat : Int) := by
      unfold sb
      rw [List.getD_eq_getElem?_getD, List.getElem?_eq_getElem (by simpa using hlt)]
      rfl
    rw [hb]
    simp [ha.eval hx, ha.eval hy, Instr.index, asIntOf, run_underlying hu, h0, hge]
  · cases ht
theorem pv_eql_str {t u : TypeId} {x y : Operand} {a b : ByteArray} (hx : E.op x = some (.string a)) (hy : E.op y = some (.string b)) : PV X E S (.binOp .eql t x y u) (.bool (decide (a = b))) := by
  intro ac w o ha _ ho
  unfold execOp; rw [ho]
  have : (a.toList == b.toList) = decide (a = b) := by rw [Bool.eq_iff_iff]; simp [ByteArray.toList_eq, ByteArray.ext_iff]
  simp [ha.eval hx, ha.eval hy, eqGuard_str, binOp, Op.stringOp, this]
theorem pv_neq_str {t u : TypeId} {x y : Operand} {a b : ByteArray} (hx : E.op x = some (.string a)) (hy : E.op y = some (.string b)) : PV X E S (.binOp .neq t x y u) (.bool (!decide (a = b))) := by
  intro ac w o ha _ ho
  unfold execOp; rw [ho]
  have : (a.toList == b.toList) = decide (a = b) := by rw [Bool.eq_iff_iff]; simp [ByteArray.toList_eq, ByteArray.ext_iff]
  simp [ha.eval hx, ha.eval hy, eqGuard_str, binOp, Op.stringOp, this]
def intT (P : Program) (t : TypeId) : Option IntKind := match P.underlying t with | some (.int q) => some q | _ => none
theorem pv_convert {s t : TypeId} {x : Operand} {q q' : IntKind} {n : Int} (hx : E.op x = some (.int q n)) (hs : (X.P.underlying s).isSome = true) (ht : intT X.P t = some q') : PV X E S (.convert s t x) (.int q' (q'.wrap n)) := by
  intro a w o ha _ ho
  unfold intT at ht
  split at ht
  · rename_i qq hu
    simp only [Option.some.injEq] at ht
    subst ht
    unfold execOp; rw [ho]
    have := run_convert_int (P := X.P) w s t q n hs (by rw [hu]; simp [Program.intKind, hu])
    simp [ha.eval hx, this, Program.intKind, hu]
  · cases ht
theorem pv_convertb {s t : TypeId} {x : Operand} {q q' : IntKind} {n : Int} (hx : E.op x = some (.int q n)) (hs : (X.P.underlying s).isSome = true) (ht : intT X.P t = some q') (hn : inKind q' n) : PV X E S (.convert s t x) (.int q' n) := by
  have := pv_convert (S := S) hx hs ht
  rwa [show q'.wrap n = n from hn] at this

/-- where a part of a slice begins -/
def subP (p : Option Addr) (c l sz : Nat) : Option Addr := if c = l then p else p.map (·.add (l * sz))
def bnd (E : Env) : Option Operand → Option (Option Nat)
  | none => some none
  | some x => match E.op x with
    | some (.int _ n) => if 0 ≤ n then some (some n.toNat) else none
    | _ => none
theorem run_sliceBound {P : Program} {w : World} {q : IntKind} {n : Int} {y : Nat} {c : BoundsCode} (h0 : 0 ≤ n) (h1 : n ≤ y) : (Instr.sliceBound (.int q n) y c).run P w = .ok n.toNat w := by
  unfold Instr.sliceBound; simp [asIntOf, h0, h1]
/-- x[l:] -/
theorem pv_slice_lo {t e sz : TypeId} {x y : Operand} {p : Option Addr} {n c : Nat} {q : IntKind} {l : Int} (hx : E.op x = some (.slice p n c)) (hy : E.op y = some (.int q l)) (he : elemT X.P t = some (e, sz)) (h0 : 0 ≤ l) (h1 : l ≤ n) :
    PV X E S (.slice t x (some y) none none) (.slice (subP p c l.toNat sz) (n - l.toNat) (c - l.toNat)) := by
  intro a w o ha _ ho
  unfold elemT at he
  split at he
  · rename_i e' hu
    cases hs : szT X.P e' with
    | none => rw [hs] at he; cases he
    | some qq =>
      rw [hs] at he
      simp only [Option.map_some, Option.some.injEq, Prod.mk.injEq] at he
      obtain ⟨rfl, rfl⟩ := he
      unfold execOp; rw [ho]
      simp [ha.eval hx, ha.eval hy, Instr.sliceAt, run_underlying hu, Instr.slice, Instr.sliceBounds, run_sliceBound h0 h1, run_szOf hs, subP]
  · cases he
/-- x[:h] -/
theorem pv_slice_hi {t e sz : TypeId} {x y : Operand} {p : Option Addr} {n c : Nat} {q : IntKind} {l : Int} (hx : E.op x = some (.slice p n c)) (hy : E.op y = some (.int q l)) (he : elemT X.P t = some (e, sz)) (h0 : 0 ≤ l) (h1 : l ≤ c) :
    PV X E S (.slice t x none (some y) none) (.slice p l.toNat c) := by
  intro a w o ha _ ho
  unfold elemT at he
  split at he
  · rename_i e' hu
    cases hs : szT X.P e' with
    | none => rw [hs] at he; cases he
    | some qq =>
      rw [hs] at he
      simp only [Option.map_some, Option.some.injEq, Prod.mk.injEq] at he
      obtain ⟨rfl, rfl⟩ := he
      have hp : (if c = 0 then p else Option.map (fun x => Addr.add x 0) p) = p := by
        split
        · rfl
        · cases p <;> simp [Addr.add]
      unfold execOp; rw [ho]
      simp [ha.eval hx, ha.eval hy, Instr.sliceAt, run_underlying hu, Instr.slice, Instr.sliceBounds, run_sliceBound h0 h1, run_szOf hs, hp]
  · cases he
/-- x[:h:m] -/
theorem pv_slice_hm {t e sz : TypeId} {x y z : Operand} {p : Option Addr} {n c : Nat} {q q' : IntKind} {l m : Int} (hx : E.op x = some (.slice p n c)) (hy : E.op y = some (.int q l)) (hz : E.op z = some (.int q' m)) (he : elemT X.P t = some (e, sz)) (h0 : 0 ≤ l) (h1 : l ≤ m) (h2 : m ≤ c) :
    PV X E S (.slice t x none (some y) (some z)) (.slice p l.toNat m.toNat) := by
  intro a w o ha _ ho
  unfold elemT at he
  split at he
  · rename_i e' hu
    cases hs : szT X.P e' with
    | none => rw [hs] at he; cases he
    | some qq =>
      rw [hs] at he
      simp only [Option.map_some, Option.some.injEq, Prod.mk.injEq] at he
      obtain ⟨rfl, rfl⟩ := he
      have hp : Option.map (fun x => Addr.add x 0) p = p := by cases p <;> simp [Addr.add]
      have hlm : l ≤ (m.toNat : Int) := by omega
      unfold execOp; rw [ho]
      simp [ha.eval hx, ha.eval hy, ha.eval hz, Instr.sliceAt, run_underlying hu, Instr.slice, Instr.sliceBounds, run_sliceBound (show (0 : Int) ≤ m by omega) h2, run_sliceBound h0 hlm, run_szOf hs, hp]
  · cases he
/-- of an array in memory: all of it -/
theorem pv_slice_arr {t e : TypeId} {m : Nat} {x : Operand} {b o : Nat} (hx : E.op x = some (.pointer (some ⟨b, o, none⟩))) (he : X.P.underlying t = some (.array m e)) (hs : (szT X.P e).isSome = true) :
    PV X E S (.slice t x none none none) (.slice (some ⟨b, o, none⟩) m m) := by
  intro a w op ha _ ho
  obtain ⟨q, hq⟩ := Option.isSome_iff_exists.1 hs
  unfold execOp; rw [ho]
  simp [ha.eval hx, Instr.sliceAt, run_underlying he, Instr.sliceBounds, Instr.sureAddr, run_szOf hq, Addr.add]
theorem pv_arrPtr {t e : TypeId} {m : Nat} {x : Operand} {p : Option Addr} {n c : Nat} (hx : E.op x = some (.slice p n c)) (he : X.P.underlying t = some (.array m e)) (hn : m ≤ n) : PV X E S (.sliceToArrayPointer t x) (.pointer p) := by
  intro a w op ha _ ho
  unfold execOp; rw [ho]
  simp [ha.eval hx, Instr.arrayAt, run_underlying he, show ¬ n < m by omega]

/-- a literal slice -/
theorem rg_buildSlice {d : Nat} {t e sz len : Nat} {parts : List (Nat × Operand)} {g : Option (Nat × Bool)} {vs : List Value} {cs : Array Value} (ho : opAt ops i = some (some d, .buildSlice t len parts.toArray, g))
    (hc : (calm (.buildSlice t len parts.toArray) && Nat.blt d X.N && Nat.blt i k && (says ops E g == some true)) = true) (hx : Env.opsOf E (parts.map (·.2)) = some vs)
    (he : elemT X.P t = some (e, sz)) (zv : Value) (hz : zeroT X.P e = some zv) (hlz : (Nat.blt 0 (len * sz) && Nat.ble (len * sz) 16777216) = true)
    (hf : Instr.fill (fun i => some (i * sz, sz)) ((Array.range (len * sz)).map (zv.cells[· % zv.cells.size]!)) ((parts.map (·.1)).zip vs) = some cs)
    (h : ∀ b, Rg X ops (i + 1) k ((d, .slice (some ⟨b, 0, none⟩) len len) :: E) (blk b (.cells cs e (0, 0)) :: S) Q) : Rg X ops i k E S Q := by
  refine Rg.value ho hc fun a w o ha hw hop => ?_
  unfold elemT at he
  split at he
  · rename_i e' hu
    cases hs : szT X.P e' with
    | none => rw [hs] at he; cases he
    | some qq =>
      rw [hs] at he
      simp only [Option.map_some, Option.some.injEq, Prod.mk.injEq] at he
      obtain ⟨rfl, rfl⟩ := he
      simp only [Bool.and_eq_true, Nat.blt_eq, Nat.ble_eq] at hlz
      refine ⟨.slice (some ⟨w.heap.size, 0, none⟩) len len, _, _, ?_, hw.alloc (.cells cs e' (0, 0)), h w.heap.size⟩
      have hparts : (parts.toArray.map fun x => (x.1, a.eval x.2)).toList = (parts.map (·.1)).zip vs := by
        have := ha.evals hx
        rw [← this]
        simp only [List.map_toArray]
        rw [List.map_map, List.zip_map']
        rfl
      unfold execOp; rw [hop]
      simp only [Instr.buildSlice, Sem.run_bind, run_underlying hu, Result.andThen_ok, run_szOf hs]
      rw [Sem.run_ite, if_neg (by omega)]
      simp only [Sem.run_bind, Sem.run_pure, Result.andThen_ok, Sem.run_ite]
      rw [if_neg (by omega)]
      simp only [Sem.run_bind, run_zero hz, Sem.run_pure, Result.andThen_ok, hparts, hf, newRow, run_newObj]
  · cases he

/-! ### Bits -/
def bitsI (op : BinOp) (k : IntKind) (x y : Int) : Int :=
  let a := BitVec.ofInt k.bits x
  let b := BitVec.ofInt k.bits y
  match op with
  | .and => k.wrap (a &&& b).toNat
  | .or => k.wrap (a ||| b).toNat
  | .xor => k.wrap (a ^^^ b).toNat
  | .andNot => k.wrap (a &&& ~~~b).toNat
  | _ => 0
def isBits : BinOp → Bool
  | .and | .or | .xor | .andNot => true
  | _ => false
def shrI (k : IntKind) (x y : Int) : Int := x.fdiv (2 ^ min y.toNat k.bits)
def shlI (k : IntKind) (x y : Int) : Int := k.wrap (x * 2 ^ min y.toNat k.bits)
def negI (k : IntKind) (x : Int) : Int := k.wrap (0 - x)
def invI (k : IntKind) (x : Int) : Int := bitsI .xor k (if k.signed then -1 else k.max) x
theorem pv_bits {op : BinOp} {t u : TypeId} {x y : Operand} {q : IntKind} {m n : Int} (hx : E.op x = some (.int q m)) (hy : E.op y = some (.int q n)) (hb : isBits op = true) : PV X E S (.binOp op t x y u) (.int q (bitsI op q m n)) :=
  pv_int hx hy fun w => by cases op <;> first | (simp [binOp, Op.intBits, bitsI]; done) | cases hb
theorem pv_shr {t u : TypeId} {x y : Operand} {q q' : IntKind} {m n : Int} (hx : E.op x = some (.int q m)) (hy : E.op y = some (.int q' n)) (h0 : 0 ≤ n) : PV X E S (.binOp .shr t x y u) (.int q (shrI q m n)) := by
  intro a w o ha _ ho
  unfold execOp; rw [ho]; simp [ha.eval hx, ha.eval hy, eqGuard_int, binOp, Op.shift, shrI, show ¬ n < 0 by omega]
theorem pv_shl {t u : TypeId} {x y : Operand} {q q' : IntKind} {m n : Int} (hx : E.op x = some (.int q m)) (hy : E.op y = some (.int q' n)) (h0 : 0 ≤ n) : PV X E S (.binOp .shl t x y u) (.int q (shlI q m n)) := by
  intro a w o ha _ ho
  unfold execOp; rw [ho]; simp [ha.eval hx, ha.eval hy, eqGuard_int, binOp, Op.shift, shlI, show ¬ n < 0 by omega]
theorem pv_neg {t : TypeId} {x : Operand} {q : IntKind} {m : Int} (hx : E.op x = some (.int q m)) : PV X E S (.unOp .neg t x) (.int q (negI q m)) := by
  intro a w o ha _ ho
  unfold execOp; rw [ho]; simp [ha.eval hx, Op.unary, Op.intArith, negI]
theorem pv_inv {t : TypeId} {x : Operand} {q : IntKind} {m : Int} (hx : E.op x = some (.int q m)) : PV X E S (.unOp .xor t x) (.int q (invI q m)) := by
  intro a w o ha _ ho
  unfold execOp; rw [ho]; simp [ha.eval hx, Op.unary, Op.intBits, invI, bitsI]
theorem in_u8 {m : Int} (h1 : 0 ≤ m) (h2 : m ≤ 255) : inKind .u8 m := IntWalk.u8_in _ ⟨h1, h2⟩
end
end Go.Proofs.Ytfhhggcdmgjbcaa.Sx
