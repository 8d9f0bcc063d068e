/-
  A part of the walk of the seat: laws of a small proof system, and contracts of functions, each proved. Conditions: as each theorem says.
-/
import Derived.Test.YtfhhggcdmgjbcaaFr
import Derived.Test.YtfhhggcdmgjbcaaCoreB
import Derived.OpenShut
import Derived.ChangeArms
import Derived.Test.YtfhhggcdmgjbcaaProg
import Derived.Test.YtfhhggcdmgjbcaaRows
namespace Go.Proofs.Ytfhhggcdmgjbcaa.Sx
open Go Go.RowKit Go.Proofs
abbrev bulk {H : Type} (d : DataW H) : Nat := Ytfhhggcdmgjbcaa.Rows.uptoBulk d
abbrev bulkAll {H : Type} (d : List (DataW H)) : Nat := Ytfhhggcdmgjbcaa.Rows.uptoBulkAll d
theorem bulk_part {H : Type} {d : DataW H} {l : List (DataW H)} (h : d ∈ l) : bulk d ≤ bulkAll l := by
  induction l with
  | nil => cases h
  | cons x r ih =>
    simp only [bulkAll, bulk, Ytfhhggcdmgjbcaa.Rows.uptoBulkAll] at ih ⊢
    cases List.mem_cons.1 h with
    | inl e => subst e; omega
    | inr e => have := ih e; omega
theorem bulk_one {H : Type} (d : DataW H) : 1 ≤ bulk d := by
  unfold bulk
  cases d with
  | lit l => cases l <;> simp [Ytfhhggcdmgjbcaa.Rows.uptoBulk]
  | nil => simp [Ytfhhggcdmgjbcaa.Rows.uptoBulk]
  | ptr d => simp [Ytfhhggcdmgjbcaa.Rows.uptoBulk]
  | slice elems spare => simp [Ytfhhggcdmgjbcaa.Rows.uptoBulk]
  | agg parts => simp [Ytfhhggcdmgjbcaa.Rows.uptoBulk]
  | iface t d => simp [Ytfhhggcdmgjbcaa.Rows.uptoBulk]
  | map entries => simp [Ytfhhggcdmgjbcaa.Rows.uptoBulk]
  | held h => simp [Ytfhhggcdmgjbcaa.Rows.uptoBulk]
theorem bulk_len {H : Type} (l : List (DataW H)) : l.length ≤ bulkAll l := by
  induction l with
  | nil => simp
  | cons x r ih => have := bulk_one x; simp only [bulkAll, bulk, Ytfhhggcdmgjbcaa.Rows.uptoBulkAll, List.length_cons] at this ih ⊢; omega
theorem bulk_agg {H : Type} (l : List (DataW H)) : bulk (.agg l) = bulkAll l + 1 := by simp [bulk, bulkAll, Ytfhhggcdmgjbcaa.Rows.uptoBulk]
theorem bulk_slice {H : Type} (l r : List (DataW H)) : bulk (.slice l r) = bulkAll l + bulkAll r + 1 := by simp [bulk, bulkAll, Ytfhhggcdmgjbcaa.Rows.uptoBulk]
theorem bulk_str {H : Type} (b : List UInt8) : bulk (DataW.lit (H := H) (.string b)) = b.length + 1 := by simp [bulk, Ytfhhggcdmgjbcaa.Rows.uptoBulk]

theorem addr_mk {w : World} {a : Addr} {v : Value} (h : w.cell? a = some v) : a = ⟨a.block, a.off, none⟩ ∧ a.block < w.heap.size := by
  unfold World.cell? at h
  split at h
  · rename_i c _ _ hb
    refine ⟨?_, (Array.getElem?_eq_some_iff.1 hb).1⟩
    obtain ⟨b, o, s⟩ := a
    cases s with
    | none => rfl
    | some s => simp at h
  · cases h

section
variable {H : Type} {enc : TypeId × Value → H} {P : Program} {w : World} {held : Bool} {spare : Nat → Bool}
theorem fld {n : Nat} {cs : List Value} {xs : List (DataW H × List MemPlace)} {fs : Array Field} (hf : ∀ (i : Nat) (f : Field), fs[i]? = some f → DataW.trod enc P w 0 spare held n f.type ((cs.drop f.offset).take (P.cellsOf f.type)) = xs[i]?) {i t o k : Nat}
    (h : (fs[i]?).map (fun f => (f.type, f.offset, P.cellsOf f.type)) = some (t, o, k)) : DataW.trod enc P w 0 spare held n t ((cs.drop o).take k) = xs[i]? := by
  rw [Option.map_eq_some_iff] at h
  obtain ⟨f, h1, h2⟩ := h
  simp only [Prod.mk.injEq] at h2
  obtain ⟨rfl, rfl, rfl⟩ := h2
  exact hf i f h1
/-- a row of elements, each read -/
theorem row_open {e sz n len : Nat} {a : Addr} {elems : List (DataW H × List MemPlace)} (hsz : P.cellsOf e = sz) (hl : elems.length = len)
    (h : ∀ i, i < len → (w.cells? 0 (a.add (i * P.cellsOf e)) (P.cellsOf e)).bind (DataW.trod enc P w 0 spare held n e) = elems[i]?) :
    ∀ i, i < len → ∃ (cs : List Value) (y : DataW H × List MemPlace), cs.length = sz ∧ (∀ j, j < sz → w.cell? ((a.add (i * sz)).add j) = cs[j]?) ∧ y ∈ elems ∧ DataW.trod enc P w 0 spare held n e cs = some y := by
  intro i hi
  have h1 := h i hi
  rw [List.getElem?_eq_getElem (by omega), Option.bind_eq_some_iff] at h1
  obtain ⟨cs, hc, ht⟩ := h1
  rw [hsz] at hc
  obtain ⟨_, hlen, hcell⟩ := World.cells?_some hc
  exact ⟨cs, elems[i], hlen, hcell, List.getElem_mem _, ht⟩
theorem rowsAt_of {sz len : Nat} {a : Addr} {cs : Nat → List Value} (hpos : 0 < sz) (hlen : ∀ i, i < len → (cs i).length = sz) (h : ∀ i, i < len → ∀ j, j < sz → w.cell? ((a.add (i * sz)).add j) = (cs i)[j]?) :
    RowsAt (Low w) w sz (some a) len fun i j => (cs i)[j]? := by
  have h0 : 0 < len → a = ⟨a.block, a.off, none⟩ ∧ a.block < w.heap.size := by
    intro hl
    have h1 := h 0 hl 0 hpos
    rw [List.getElem?_eq_getElem (by rw [hlen 0 hl]; exact hpos)] at h1
    have e : (a.add (0 * sz)).add 0 = a := by simp [Addr.add]
    rw [e] at h1
    exact addr_mk h1
  refine ⟨fun hl => ⟨a.block, a.off, by rw [← (h0 hl).1]⟩, fun b o hl hp => ?_, fun b o hp i hi j hj => ?_⟩
  · have := (h0 hl).2
    simp only [Option.some.injEq] at hp
    subst hp; exact this
  · simp only [Option.some.injEq] at hp
    subst hp
    have := h i hi j hj
    rw [add_mk, add_mk] at this
    exact this
theorem RowsAt.eq {F : Nat → Prop} {sz len : Nat} {p : Option Addr} {c c' : Nat → Nat → Option Value} (h : RowsAt F w sz p len c) (hc : ∀ i, i < len → ∀ j, j < sz → c i j = c' i j) : RowsAt F w sz p len c' :=
  ⟨h.adr, h.foot, fun b o hp i hi j hj => (h.cell b o hp i hi j hj).trans (hc i hi j hj)⟩
theorem rows_nil {F : Nat → Prop} {sz : Nat} {p : Option Addr} {c : Nat → Nat → Option Value} : RowsAt F w sz p 0 c := ⟨fun h => by omega, fun _ _ h => by omega, fun _ _ _ i h => by omega⟩
theorem getD_rm {α : Type} (f : Nat → α) (d : α) {m k : Nat} (h : k < m) : ((List.range m).map f).getD k d = f k := by
  simp [List.getD_eq_getElem?_getD, List.getElem?_map, List.getElem?_range h]

theorem wf_i64 {n : Int} (h : (Lit.int .i64 n).wf = true) : -9223372036854775808 ≤ n ∧ n ≤ 9223372036854775807 := by simpa [Lit.wf, IntKind.min, IntKind.max, IntKind.signed, IntKind.bits] using h
theorem wf_u64 {n : Int} (h : (Lit.int .u64 n).wf = true) : 0 ≤ n ∧ n ≤ 18446744073709551615 := by simpa [Lit.wf, IntKind.min, IntKind.max, IntKind.signed, IntKind.bits] using h
theorem wf_u32 {n : Int} (h : (Lit.int .u32 n).wf = true) : 0 ≤ n ∧ n ≤ 4294967295 := by simpa [Lit.wf, IntKind.min, IntKind.max, IntKind.signed, IntKind.bits] using h
theorem wf_u8 {n : Int} (h : (Lit.int .u8 n).wf = true) : 0 ≤ n ∧ n ≤ 255 := by simpa [Lit.wf, IntKind.min, IntKind.max, IntKind.signed, IntKind.bits] using h
theorem bytes_open {n : Nat} {v : Value} {x : DataW H × List MemPlace} (h : DataW.trod enc Try.prog w 0 spare held n 29 [v] = some x) :
    ∃ (p : Option Addr) (xs : List Int) (c : Nat), v = .slice p xs.length c ∧ BytesAt (Low w) w p xs ∧ xs.length ≤ bulk x.1 ∧ xs.length ≤ c ∧ ∀ z ∈ xs, 0 ≤ z ∧ z ≤ 255 := by
  rcases DataW.trod_slice (e := 5) (by kernel_rfl) h with ⟨h1, _⟩ | ⟨a, len, cap, elems, rest, m, _, h1, hx, _, hcap, _, hl, hi, _⟩
  · simp only [List.cons.injEq, and_true] at h1
    exact ⟨none, [], 0, h1, rows_nil, by simp, by simp, by simp⟩
  · simp only [List.cons.injEq, and_true] at h1
    have hr := row_open (P := Try.prog) (sz := 1) (by kernel_rfl) hl hi
    have hex : ∀ i, ∃ z : Int, (0 ≤ z ∧ z ≤ 255) ∧ (i < len → w.cell? ((a.add (i * 1)).add 0) = some (.int .u8 z)) := by
      intro i
      by_cases hi' : i < len
      · obtain ⟨cs, y, hcl, hcc, _, ht⟩ := hr i hi'
        obtain ⟨z, hz, _, hzw⟩ := DataW.trod_int (k := .u8) (by kernel_rfl) ht
        refine ⟨z, wf_u8 hzw, fun _ => ?_⟩
        rw [hcc 0 (by omega), hz]; rfl
      · exact ⟨0, by omega, fun h => absurd h hi'⟩
    obtain ⟨f, hf⟩ := Classical.skolem.1 hex
    have hlen : ((List.range len).map f).length = len := by simp
    refine ⟨some a, (List.range len).map f, cap, by rw [hlen]; exact h1, ?_, ?_, by rw [hlen]; exact hcap, fun z hz => by obtain ⟨i, _, rfl⟩ := List.mem_map.1 hz; exact (hf i).1⟩
    · have := rowsAt_of (w := w) (sz := 1) (len := len) (a := a) (cs := fun i => [.int .u8 (f i)]) (by omega) (fun _ _ => rfl) (fun i hi j hj => by
        obtain rfl : j = 0 := by omega
        exact (hf i).2 hi)
      unfold BytesAt
      rw [hlen]
      exact this.eq fun i hi j hj => by
        obtain rfl : j = 0 := by omega
        rw [getD_rm f 0 hi]; rfl
    · rw [hlen, hx, bulk_slice]
      have := bulk_len (elems.map (·.1))
      rw [List.length_map, hl] at this
      omega
set_option maxRecDepth 100000 in
theorem entry_open {n : Nat} {cs : List Value} {y : DataW H × List MemPlace} (hl : cs.length = 3) (h : DataW.trod enc Try.prog w 0 spare held n 50 cs = some y) (hb : bulk y.1 ≤ 1048576) :
    ∃ e : Entry, cs = [.string e.name, .int .i64 e.node, .int .u64 e.cookie] ∧ EntryWf e := by
  match cs, hl with
  | [c0, c1, c2], _ =>
    obtain ⟨xs, m, _, hx, _, hxl, hf⟩ := DataW.trod_struct (fs := Try.prog.fieldsOf 50) (by kernel_rfl) h
    match xs, hxl.trans (show (Try.prog.fieldsOf 50).size = 3 by kernel_rfl) with
    | [x0, x1, x2], _ =>
      have f0 : DataW.trod enc Try.prog w 0 spare held m 9 [c0] = some x0 := fld hf (i := 0) (t := 9) (o := 0) (k := 1) (by kernel_rfl)
      have f1 : DataW.trod enc Try.prog w 0 spare held m 3 [c1] = some x1 := fld hf (i := 1) (t := 3) (o := 1) (k := 1) (by kernel_rfl)
      have f2 : DataW.trod enc Try.prog w 0 spare held m 34 [c2] = some x2 := fld hf (i := 2) (t := 34) (o := 2) (k := 1) (by kernel_rfl)
      obtain ⟨s, hs, hs2, _⟩ := DataW.trod_string (by kernel_rfl) f0
      obtain ⟨z, hz, _, hzw⟩ := DataW.trod_int (k := .i64) (by kernel_rfl) f1
      obtain ⟨u, hu, _, huw⟩ := DataW.trod_int (k := .u64) (by kernel_rfl) f2
      simp only [List.cons.injEq, and_true] at hs hz hu
      refine ⟨⟨s, z, u⟩, by rw [hs, hz, hu], ?_⟩
      have hz' := wf_i64 hzw
      have hu' := wf_u64 huw
      refine ⟨?_, hz'.1, hz'.2, hu'.1, hu'.2⟩
      have : bulk x0.1 ≤ bulkAll ([x0, x1, x2].map (·.1)) := bulk_part (by simp)
      rw [hx, bulk_agg] at hb
      have hs3 : bulk x0.1 = s.data.toList.length + 1 := by rw [hs2, bulk_str]
      have e : s.data.toList.length = s.size := by rw [Array.length_toList]; rfl
      show s.size ≤ _
      omega
theorem ezero_wf : EntryWf Entry.zero := ⟨by show 0 ≤ 16777216; omega, by show -9223372036854775808 ≤ (0 : Int); omega, by show (0 : Int) ≤ 9223372036854775807; omega, by show (0 : Int) ≤ 0; omega, by show (0 : Int) ≤ 18446744073709551615; omega⟩
theorem entries_open {n : Nat} {v : Value} {x : DataW H × List MemPlace} (h : DataW.trod enc Try.prog w 0 spare held n 42 [v] = some x) (hb : bulk x.1 ≤ 1048576) :
    ∃ (p : Option Addr) (es : List Entry) (c : Nat), v = .slice p es.length c ∧ EntriesAt (Low w) w p es ∧ es.length ≤ bulk x.1 ∧ es.length ≤ c ∧ ∀ i, EntryWf (en es i) := by
  have hz0 : EntryWf Entry.zero := ezero_wf
  rcases DataW.trod_slice (e := 50) (by kernel_rfl) h with ⟨h1, _⟩ | ⟨a, len, cap, elems, rest, m, _, h1, hx, _, hcap, _, hl, hi, _⟩
  · simp only [List.cons.injEq, and_true] at h1
    exact ⟨none, [], 0, h1, rows_nil, by simp, by simp, fun i => by simpa [en] using hz0⟩
  · simp only [List.cons.injEq, and_true] at h1
    have hr := row_open (P := Try.prog) (sz := 3) (by kernel_rfl) hl hi
    rw [hx, bulk_slice] at hb
    have hex : ∀ i, ∃ e : Entry, EntryWf e ∧ (i < len → ∀ j, j < 3 → w.cell? ((a.add (i * 3)).add j) = ([.string e.name, .int .i64 e.node, .int .u64 e.cookie] : List Value)[j]?) := by
      intro i
      by_cases hi' : i < len
      · obtain ⟨cs, y, hcl, hcc, hy, ht⟩ := hr i hi'
        have hyb : bulk y.1 ≤ bulkAll (elems.map (·.1)) := bulk_part (List.mem_map_of_mem hy)
        obtain ⟨e, he, hw⟩ := entry_open hcl ht (by omega)
        exact ⟨e, hw, fun _ j hj => by rw [hcc j hj, he]⟩
      · exact ⟨Entry.zero, hz0, fun h => absurd h hi'⟩
    obtain ⟨f, hf⟩ := Classical.skolem.1 hex
    have hlen : ((List.range len).map f).length = len := by simp
    have hget : ∀ i, i < len → en ((List.range len).map f) i = f i := fun i hi => getD_rm f _ hi
    refine ⟨some a, (List.range len).map f, cap, by rw [hlen]; exact h1, ?_, ?_, by rw [hlen]; exact hcap, fun i => ?_⟩
    · have := rowsAt_of (w := w) (sz := 3) (len := len) (a := a) (cs := fun i => [.string (f i).name, .int .i64 (f i).node, .int .u64 (f i).cookie]) (by omega) (fun _ _ => rfl) (fun i hi j hj => (hf i).2 hi j hj)
      unfold EntriesAt
      rw [hlen]
      exact this.eq fun i hi j hj => by rw [hget i hi]; simp
    · rw [hlen, hx, bulk_slice]
      have := bulk_len (elems.map (·.1))
      rw [List.length_map, hl] at this
      omega
    · by_cases hi' : i < len
      · rw [hget i hi']; exact (hf i).1
      · have : en ((List.range len).map f) i = Entry.zero := by simp [en, List.getD_eq_getElem?_getD, List.getElem?_eq_none (show ((List.range len).map f).length ≤ i by rw [hlen]; omega)]
        rw [this]; exact hz0
set_option maxRecDepth 100000 in
theorem time_open {n : Nat} {cs : List Value} {y : DataW H × List MemPlace} (h : DataW.trod enc Try.prog w 0 spare held n 36 cs = some y) : ∃ a b : Int, cs = [.int .u32 a, .int .u32 b] ∧ U32 a ∧ U32 b := by
  obtain ⟨xs, m, _, hx, hl, hxl, hf⟩ := DataW.trod_struct (fs := Try.prog.fieldsOf 36) (by kernel_rfl) h
  match cs, hl.trans (show Try.prog.cellsOf 36 = 2 by kernel_rfl) with
  | [c0, c1], _ =>
    match xs, hxl.trans (show (Try.prog.fieldsOf 36).size = 2 by kernel_rfl) with
    | [x0, x1], _ =>
      have f0 : DataW.trod enc Try.prog w 0 spare held m 23 [c0] = some x0 := fld hf (i := 0) (t := 23) (o := 0) (k := 1) (by kernel_rfl)
      have f1 : DataW.trod enc Try.prog w 0 spare held m 23 [c1] = some x1 := fld hf (i := 1) (t := 23) (o := 1) (k := 1) (by kernel_rfl)
      obtain ⟨a, ha, _, wa⟩ := DataW.trod_int (k := .u32) (by kernel_rfl) f0
      obtain ⟨b, hb, _, wb⟩ := DataW.trod_int (k := .u32) (by kernel_rfl) f1
      simp only [List.cons.injEq, and_true] at ha hb
      exact ⟨a, b, by rw [ha, hb], wf_u32 wa, wf_u32 wb⟩
set_option maxRecDepth 100000 in
theorem verf_open {n : Nat} {cs : List Value} {y : DataW H × List MemPlace} (h : DataW.trod enc Try.prog w 0 spare held n 41 cs = some y) :
    ∃ v : V8, cs = [.int .u8 v.a0, .int .u8 v.a1, .int .u8 v.a2, .int .u8 v.a3, .int .u8 v.a4, .int .u8 v.a5, .int .u8 v.a6, .int .u8 v.a7] ∧ ∀ x ∈ [v.a0, v.a1, v.a2, v.a3, v.a4, v.a5, v.a6, v.a7], 0 ≤ x ∧ x ≤ 255 := by
  obtain ⟨xs, m, _, hx, hl, hxl, hf⟩ := DataW.trod_array (n := 8) (e := 5) (by kernel_rfl) h
  rw [show Try.prog.cellsOf 5 = 1 by kernel_rfl] at hf
  match cs, hl.trans (show Try.prog.cellsOf 41 = 8 by kernel_rfl) with
  | [c0, c1, c2, c3, c4, c5, c6, c7], _ =>
    match xs, hxl with
    | [x0, x1, x2, x3, x4, x5, x6, x7], _ =>
      have one : ∀ {c : Value} {x : DataW H × List MemPlace}, DataW.trod enc Try.prog w 0 spare held m 5 [c] = some x → ∃ z : Int, c = .int .u8 z ∧ 0 ≤ z ∧ z ≤ 255 := by
        intro c x hc
        obtain ⟨z, hz, _, hzw⟩ := DataW.trod_int (k := .u8) (by kernel_rfl) hc
        simp only [List.cons.injEq, and_true] at hz
        exact ⟨z, hz, wf_u8 hzw⟩
      obtain ⟨z0, e0, w0⟩ := one (hf 0 (by omega))
      obtain ⟨z1, e1, w1⟩ := one (hf 1 (by omega))
      obtain ⟨z2, e2, w2⟩ := one (hf 2 (by omega))
      obtain ⟨z3, e3, w3⟩ := one (hf 3 (by omega))
      obtain ⟨z4, e4, w4⟩ := one (hf 4 (by omega))
      obtain ⟨z5, e5, w5⟩ := one (hf 5 (by omega))
      obtain ⟨z6, e6, w6⟩ := one (hf 6 (by omega))
      obtain ⟨z7, e7, w7⟩ := one (hf 7 (by omega))
      exact ⟨⟨z0, z1, z2, z3, z4, z5, z6, z7⟩, by rw [e0, e1, e2, e3, e4, e5, e6, e7], by simp only [List.mem_cons, List.not_mem_nil, or_false]; rintro x (rfl | rfl | rfl | rfl | rfl | rfl | rfl | rfl) <;> assumption⟩
set_option maxRecDepth 100000 in
theorem node_open {n : Nat} {cs : List Value} {y : DataW H × List MemPlace} (hl : cs.length = 25) (h : DataW.trod enc Try.prog w 0 spare held n 44 cs = some y) (hb : bulk y.1 ≤ 1048576) :
    ∃ (d : Node) (l : Loc), cs = (d.cells l).toList ∧ NodeAt (Low w) w d l ∧ NodeWf d := by
  match cs, hl with
  | [c0, c1, c2, c3, c4, c5, c6, c7, c8, c9, c10, c11, c12, c13, c14, c15, c16, c17, c18, c19, c20, c21, c22, c23, c24], _ =>
    obtain ⟨xs, m, _, hx, _, hxl, hf⟩ := DataW.trod_struct (fs := Try.prog.fieldsOf 44) (by kernel_rfl) h
    match xs, hxl.trans (show (Try.prog.fieldsOf 44).size = 15 by kernel_rfl) with
    | [x0, x1, x2, x3, x4, x5, x6, x7, x8, x9, x10, x11, x12, x13, x14], _ =>
      have f0 : DataW.trod enc Try.prog w 0 spare held m 33 [c0] = some x0 := fld hf (i := 0) (t := 33) (o := 0) (k := 1) (by kernel_rfl)
      have f1 : DataW.trod enc Try.prog w 0 spare held m 23 [c1] = some x1 := fld hf (i := 1) (t := 23) (o := 1) (k := 1) (by kernel_rfl)
      have f2 : DataW.trod enc Try.prog w 0 spare held m 23 [c2] = some x2 := fld hf (i := 2) (t := 23) (o := 2) (k := 1) (by kernel_rfl)
      have f3 : DataW.trod enc Try.prog w 0 spare held m 23 [c3] = some x3 := fld hf (i := 3) (t := 23) (o := 3) (k := 1) (by kernel_rfl)
      have f4 : DataW.trod enc Try.prog w 0 spare held m 23 [c4] = some x4 := fld hf (i := 4) (t := 23) (o := 4) (k := 1) (by kernel_rfl)
      have f5 : DataW.trod enc Try.prog w 0 spare held m 3 [c5] = some x5 := fld hf (i := 5) (t := 3) (o := 5) (k := 1) (by kernel_rfl)
      have f6 : DataW.trod enc Try.prog w 0 spare held m 36 [c6, c7] = some x6 := fld hf (i := 6) (t := 36) (o := 6) (k := 2) (by kernel_rfl)
      have f7 : DataW.trod enc Try.prog w 0 spare held m 36 [c8, c9] = some x7 := fld hf (i := 7) (t := 36) (o := 8) (k := 2) (by kernel_rfl)
      have f8 : DataW.trod enc Try.prog w 0 spare held m 36 [c10, c11] = some x8 := fld hf (i := 8) (t := 36) (o := 10) (k := 2) (by kernel_rfl)
      have f9 : DataW.trod enc Try.prog w 0 spare held m 29 [c12] = some x9 := fld hf (i := 9) (t := 29) (o := 12) (k := 1) (by kernel_rfl)
      have f10 : DataW.trod enc Try.prog w 0 spare held m 41 [c13, c14, c15, c16, c17, c18, c19, c20] = some x10 := fld hf (i := 10) (t := 41) (o := 13) (k := 8) (by kernel_rfl)
      have f11 : DataW.trod enc Try.prog w 0 spare held m 9 [c21] = some x11 := fld hf (i := 11) (t := 9) (o := 21) (k := 1) (by kernel_rfl)
      have f12 : DataW.trod enc Try.prog w 0 spare held m 42 [c22] = some x12 := fld hf (i := 12) (t := 42) (o := 22) (k := 1) (by kernel_rfl)
      have f13 : DataW.trod enc Try.prog w 0 spare held m 3 [c23] = some x13 := fld hf (i := 13) (t := 3) (o := 23) (k := 1) (by kernel_rfl)
      have f14 : DataW.trod enc Try.prog w 0 spare held m 34 [c24] = some x14 := fld hf (i := 14) (t := 34) (o := 24) (k := 1) (by kernel_rfl)
      have hb9 : bulk x9.1 ≤ bulkAll ([x0, x1, x2, x3, x4, x5, x6, x7, x8, x9, x10, x11, x12, x13, x14].map (·.1)) := bulk_part (by simp)
      have hb11 : bulk x11.1 ≤ bulkAll ([x0, x1, x2, x3, x4, x5, x6, x7, x8, x9, x10, x11, x12, x13, x14].map (·.1)) := bulk_part (by simp)
      have hb12 : bulk x12.1 ≤ bulkAll ([x0, x1, x2, x3, x4, x5, x6, x7, x8, x9, x10, x11, x12, x13, x14].map (·.1)) := bulk_part (by simp)
      rw [hx, bulk_agg] at hb
      obtain ⟨z0, e0, _, w0⟩ := DataW.trod_int (k := .u32) (by kernel_rfl) f0
      obtain ⟨z1, e1, _, w1⟩ := DataW.trod_int (k := .u32) (by kernel_rfl) f1
      obtain ⟨z2, e2, _, w2⟩ := DataW.trod_int (k := .u32) (by kernel_rfl) f2
      obtain ⟨z3, e3, _, w3⟩ := DataW.trod_int (k := .u32) (by kernel_rfl) f3
      obtain ⟨z4, e4, _, w4⟩ := DataW.trod_int (k := .u32) (by kernel_rfl) f4
      obtain ⟨z5, e5, _, w5⟩ := DataW.trod_int (k := .i64) (by kernel_rfl) f5
      obtain ⟨t0, t1, e6, u6, v6⟩ := time_open f6
      obtain ⟨t2, t3, e7, u7, v7⟩ := time_open f7
      obtain ⟨t4, t5, e8, u8, v8'⟩ := time_open f8
      obtain ⟨p9, xs9, k9, e9, b9, l9, c9, r9⟩ := bytes_open f9
      obtain ⟨v8, e10, r10⟩ := verf_open f10
      obtain ⟨s, e11, h11, _⟩ := DataW.trod_string (by kernel_rfl) f11
      obtain ⟨p12, es, k12, e12, b12, l12, c12, w12⟩ := entries_open f12 (by omega)
      obtain ⟨z13, e13, _, w13⟩ := DataW.trod_int (k := .i64) (by kernel_rfl) f13
      obtain ⟨z14, e14, _, w14⟩ := DataW.trod_int (k := .u64) (by kernel_rfl) f14
      simp only [List.cons.injEq, and_true] at e0 e1 e2 e3 e4 e5 e6 e7 e8 e10 e11 e13 e14
      have w0 := wf_u32 w0
      have w1 := wf_u32 w1
      have w2 := wf_u32 w2
      have w3 := wf_u32 w3
      have w4 := wf_u32 w4
      have w5 := wf_i64 w5
      have w13 := wf_i64 w13
      have w14 := wf_u64 w14
      have h113 : bulk x11.1 = s.data.toList.length + 1 := by rw [h11, bulk_str]
      have es_ : s.data.toList.length = s.size := by rw [Array.length_toList]; rfl
      refine ⟨⟨z0, z1, z2, z3, z4, z5, t0, t1, t2, t3, t4, t5, xs9, v8, s, es, z13, z14⟩, ⟨p9, k9, p12, k12⟩, ?_, ⟨b9, b12, c9, c12⟩, ⟨w0.1, w0.2, w1.1, w1.2, w5.1, w5.2, w13.1, w13.2, w14.1, w14.2, ?_, ?_, ?_, w12, ⟨w2, w3, w4, u6, v6, u7, v7, u8, v8'⟩, r9, r10⟩⟩
      · obtain ⟨a6, a7⟩ := e6
        obtain ⟨a8, a9⟩ := e7
        obtain ⟨a10, a11⟩ := e8
        obtain ⟨a13, a14, a15, a16, a17, a18, a19, a20⟩ := e10
        rw [e0, e1, e2, e3, e4, e5, a6, a7, a8, a9, a10, a11, e9, a13, a14, a15, a16, a17, a18, a19, a20, e11, e12, e13, e14]
        rfl
      · show s.size ≤ _
        omega
      · show xs9.length ≤ _
        omega
      · show es.length ≤ _
        omega
theorem nzero_wf : NodeWf Node.zero := by
  refine ⟨?_, ?_, ?_, ?_, ?_, ?_, ?_, ?_, ?_, ?_, ?_, ?_, ?_, fun i => ?_, by simp [Node.zero, U32], by simp [Node.zero], by simp [Node.zero, V8.zero]⟩ <;> try decide
  have : en Node.zero.list i = Entry.zero := by simp [en, Node.zero]
  rw [this]; exact ezero_wf
set_option maxRecDepth 100000 in
theorem tree_open {n : Nat} {cs : List Value} {y : DataW H × List MemPlace} (h : DataW.trod enc Try.prog w 0 spare held n 25 cs = some y) (hb : bulk y.1 ≤ 1048576) :
    ∃ (p : Option Addr) (ns : List Node) (al : List Loc) (cap : Nat) (gen : Int), cs = [.slice p ns.length cap, .int .u32 gen] ∧ NodesAt (Low w) w p ns al ∧ NodesWf ns ∧ U32 gen ∧ ns.length ≤ cap := by
  obtain ⟨xs, m, _, hx, hl, hxl, hf⟩ := DataW.trod_struct (fs := Try.prog.fieldsOf 25) (by kernel_rfl) h
  match cs, hl.trans (show Try.prog.cellsOf 25 = 2 by kernel_rfl) with
  | [c0, c1], _ =>
    match xs, hxl.trans (show (Try.prog.fieldsOf 25).size = 2 by kernel_rfl) with
    | [x0, x1], _ =>
      have f0 : DataW.trod enc Try.prog w 0 spare held m 22 [c0] = some x0 := fld hf (i := 0) (t := 22) (o := 0) (k := 1) (by kernel_rfl)
      have f1 : DataW.trod enc Try.prog w 0 spare held m 23 [c1] = some x1 := fld hf (i := 1) (t := 23) (o := 1) (k := 1) (by kernel_rfl)
      obtain ⟨g, hg, _, wg⟩ := DataW.trod_int (k := .u32) (by kernel_rfl) f1
      simp only [List.cons.injEq, and_true] at hg
      have hb0 : bulk x0.1 ≤ bulkAll ([x0, x1].map (·.1)) := bulk_part (by simp)
      rw [hx, bulk_agg] at hb
      rcases DataW.trod_slice (e := 44) (by kernel_rfl) f0 with ⟨h1, _⟩ | ⟨a, len, cap, elems, rest, k, _, h1, hx0, _, hcap, _, hel, hi, _⟩
      · simp only [List.cons.injEq, and_true] at h1
        refine ⟨none, [], [], 0, g, by rw [h1, hg]; rfl, ⟨rows_nil, fun i h => by simp at h, rfl⟩, ⟨by simp, fun i => by simpa [nd] using nzero_wf⟩, wf_u32 wg, Nat.le_refl _⟩
      · simp only [List.cons.injEq, and_true] at h1
        have hr := row_open (P := Try.prog) (sz := 25) (by kernel_rfl) hel hi
        have hb1 : bulk x0.1 = bulkAll (elems.map (·.1)) + bulkAll (rest.map (·.1)) + 1 := by rw [hx0, bulk_slice]
        have hex : ∀ i, ∃ d : Node × Loc, NodeWf d.1 ∧ (i < len → NodeAt (Low w) w d.1 d.2 ∧ ∀ j, j < 25 → w.cell? ((a.add (i * 25)).add j) = (d.1.cells d.2)[j]?) := by
          intro i
          by_cases hi' : i < len
          · obtain ⟨cs, y, hcl, hcc, hy, ht⟩ := hr i hi'
            have hyb : bulk y.1 ≤ bulkAll (elems.map (·.1)) := bulk_part (List.mem_map_of_mem hy)
            obtain ⟨d, l, hd, hat, hw⟩ := node_open hcl ht (by omega)
            exact ⟨(d, l), hw, fun _ => ⟨hat, fun j hj => by rw [hcc j hj, hd]; simp⟩⟩
          · exact ⟨(Node.zero, Loc.zero), nzero_wf, fun h => absurd h hi'⟩
        obtain ⟨f, hff⟩ := Classical.skolem.1 hex
        have hlen : ((List.range len).map fun i => (f i).1).length = len := by simp
        have hget : ∀ i, i < len → nd ((List.range len).map fun i => (f i).1) i = (f i).1 := fun i hi => getD_rm (fun i => (f i).1) _ hi
        have hgel : ∀ i, i < len → lc ((List.range len).map fun i => (f i).2) i = (f i).2 := fun i hi => getD_rm (fun i => (f i).2) _ hi
        refine ⟨some a, (List.range len).map (fun i => (f i).1), (List.range len).map (fun i => (f i).2), cap, g, by rw [hlen, h1, hg], ⟨?_, fun i hi => ?_, by simp⟩, ⟨?_, fun i => ?_⟩, wf_u32 wg, by rw [hlen]; exact hcap⟩
        · have := rowsAt_of (w := w) (sz := 25) (len := len) (a := a) (cs := fun i => ((f i).1.cells (f i).2).toList) (by omega) (fun _ _ => rfl) (fun i hi j hj => by rw [((hff i).2 hi).2 j hj]; simp)
          rw [hlen]
          exact this.eq fun i hi j hj => by rw [hget i hi, hgel i hi]; simp
        · rw [hlen] at hi
          rw [hget i hi, hgel i hi]; exact ((hff i).2 hi).1
        · have := bulk_len (elems.map (·.1))
          rw [List.length_map, hel] at this
          rw [hlen]
          show len ≤ _
          omega
        · by_cases hi' : i < len
          · rw [hget i hi']; exact (hff i).1
          · have : nd ((List.range len).map fun i => (f i).1) i = Node.zero := by simp [nd, List.getD_eq_getElem?_getD, List.getElem?_eq_none (show ((List.range len).map fun i => (f i).1).length ≤ i by rw [hlen]; omega)]
            rw [this]; exact nzero_wf
end
end Go.Proofs.Ytfhhggcdmgjbcaa.Sx
