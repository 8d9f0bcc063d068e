/-
  A part of the walk of the seat: laws of a small proof system, and contracts of functions, each proved. Conditions: as each theorem says.
-/
import Derived.Test.YtfhhggcdmgjbcaaOp
import Derived.Test.YtfhhggcdmgjbcaaCoreB
import Derived.Test.YtfhhggcdmgjbcaaL4
namespace Go.Proofs.Ytfhhggcdmgjbcaa.Sx
open Go Go.RowKit Go.Proofs
section
variable {H : Type} {enc : TypeId × Value → H} {w : World} {held : Bool} {spare : Nat → Bool}
theorem nums_open {n : Nat} {v : Value} {x : DataW H × List MemPlace} (h : DataW.trod enc Try.prog w 0 spare held n 54 [v] = some x) :
    ∃ (p : Option Addr) (xs : List Int) (c : Nat), v = .slice p xs.length c ∧ NumsAt (Low w) w p xs ∧ xs.length ≤ bulk x.1 ∧ xs.length ≤ c ∧ ∀ z ∈ xs, U32 z := by
  rcases DataW.trod_slice (e := 23) (by kernel_rfl) h with ⟨h1, _⟩ | ⟨a, len, cap, elems, rest, m, _, h1, hx, _, hcap, _, hl, hi, _⟩
  · simp only [List.cons.injEq, and_true] at h1
    exact ⟨none, [], 0, h1, rows_nil, by simp, by simp, by simp⟩
  · simp only [List.cons.injEq, and_true] at h1
    have hr := row_open (P := Try.prog) (sz := 1) (by kernel_rfl) hl hi
    have hex : ∀ i, ∃ z : Int, U32 z ∧ (i < len → w.cell? ((a.add (i * 1)).add 0) = some (.int .u32 z)) := by
      intro i
      by_cases hi' : i < len
      · obtain ⟨cs, y, hcl, hcc, _, ht⟩ := hr i hi'
        obtain ⟨z, hz, _, hzw⟩ := DataW.trod_int (k := .u32) (by kernel_rfl) ht
        refine ⟨z, wf_u32 hzw, fun _ => ?_⟩
        rw [hcc 0 (by omega), hz]; rfl
      · exact ⟨0, ⟨by omega, by omega⟩, fun h => absurd h hi'⟩
    obtain ⟨f, hf⟩ := Classical.skolem.1 hex
    have hlen : ((List.range len).map f).length = len := by simp
    refine ⟨some a, (List.range len).map f, cap, by rw [hlen]; exact h1, ?_, ?_, by rw [hlen]; exact hcap, fun z hz => by obtain ⟨i, _, rfl⟩ := List.mem_map.1 hz; exact (hf i).1⟩
    · have := rowsAt_of (w := w) (sz := 1) (len := len) (a := a) (cs := fun i => [.int .u32 (f i)]) (by omega) (fun _ _ => rfl) (fun i hi j hj => by
        obtain rfl : j = 0 := by omega
        exact (hf i).2 hi)
      unfold NumsAt
      rw [hlen]
      exact this.eq fun i hi j hj => by
        obtain rfl : j = 0 := by omega
        rw [getD_rm f 0 hi]; rfl
    · rw [hlen, hx, bulk_slice]
      have := bulk_len (elems.map (·.1))
      rw [List.length_map, hl] at this
      omega
set_option maxRecDepth 100000 in
theorem cred_open {n : Nat} {cs : List Value} {y : DataW H × List MemPlace} (hl : cs.length = 3) (h : DataW.trod enc Try.prog w 0 spare held n 56 cs = some y) :
    ∃ (c : CredD) (p : Option Addr) (k : Nat), cs = [.int .u32 c.user, .int .u32 c.group, .slice p c.groups.length k] ∧ NumsAt (Low w) w p c.groups ∧ c.groups.length ≤ bulk y.1 ∧ U32 c.user ∧ U32 c.group := by
  match cs, hl with
  | [c0, c1, c2], _ =>
    obtain ⟨xs, m, _, hx, _, hxl, hf⟩ := DataW.trod_struct (fs := Try.prog.fieldsOf 56) (by kernel_rfl) h
    match xs, hxl.trans (show (Try.prog.fieldsOf 56).size = 3 by kernel_rfl) with
    | [x0, x1, x2], _ =>
      have f0 : DataW.trod enc Try.prog w 0 spare held m 23 [c0] = some x0 := fld hf (i := 0) (t := 23) (o := 0) (k := 1) (by kernel_rfl)
      have f1 : DataW.trod enc Try.prog w 0 spare held m 23 [c1] = some x1 := fld hf (i := 1) (t := 23) (o := 1) (k := 1) (by kernel_rfl)
      have f2 : DataW.trod enc Try.prog w 0 spare held m 54 [c2] = some x2 := fld hf (i := 2) (t := 54) (o := 2) (k := 1) (by kernel_rfl)
      obtain ⟨u, hu, _, wu⟩ := DataW.trod_int (k := .u32) (by kernel_rfl) f0
      obtain ⟨g, hg, _, wg⟩ := DataW.trod_int (k := .u32) (by kernel_rfl) f1
      obtain ⟨p, ys, k, e, hN, hb, _⟩ := nums_open f2
      simp only [List.cons.injEq, and_true] at hu hg
      refine ⟨⟨u, g, ys⟩, p, k, by rw [hu, hg, e], hN, ?_, wf_u32 wu, wf_u32 wg⟩
      have : bulk x2.1 ≤ bulkAll ([x0, x1, x2].map (·.1)) := bulk_part (by simp)
      rw [hx, bulk_agg]
      show ys.length ≤ _
      omega
set_option maxRecDepth 100000 in
theorem set_open {n : Nat} {cs : List Value} {y : DataW H × List MemPlace} (hl : cs.length = 14) (h : DataW.trod enc Try.prog w 0 spare held n 59 cs = some y) :
    ∃ s : SetD, cs = s.cells.toList ∧ SetWf s := by
  match cs, hl with
  | [c0, c1, c2, c3, c4, c5, c6, c7, c8, c9, c10, c11, c12, c13], _ =>
    obtain ⟨xs, m, _, hx, _, hxl, hf⟩ := DataW.trod_struct (fs := Try.prog.fieldsOf 59) (by kernel_rfl) h
    match xs, hxl.trans (show (Try.prog.fieldsOf 59).size = 12 by kernel_rfl) with
    | [x0, x1, x2, x3, x4, x5, x6, x7, x8, x9, x10, x11], _ =>
      have f0 : DataW.trod enc Try.prog w 0 spare held m 4 [c0] = some x0 := fld hf (i := 0) (t := 4) (o := 0) (k := 1) (by kernel_rfl)
      have f1 : DataW.trod enc Try.prog w 0 spare held m 23 [c1] = some x1 := fld hf (i := 1) (t := 23) (o := 1) (k := 1) (by kernel_rfl)
      have f2 : DataW.trod enc Try.prog w 0 spare held m 4 [c2] = some x2 := fld hf (i := 2) (t := 4) (o := 2) (k := 1) (by kernel_rfl)
      have f3 : DataW.trod enc Try.prog w 0 spare held m 23 [c3] = some x3 := fld hf (i := 3) (t := 23) (o := 3) (k := 1) (by kernel_rfl)
      have f4 : DataW.trod enc Try.prog w 0 spare held m 4 [c4] = some x4 := fld hf (i := 4) (t := 4) (o := 4) (k := 1) (by kernel_rfl)
      have f5 : DataW.trod enc Try.prog w 0 spare held m 23 [c5] = some x5 := fld hf (i := 5) (t := 23) (o := 5) (k := 1) (by kernel_rfl)
      have f6 : DataW.trod enc Try.prog w 0 spare held m 4 [c6] = some x6 := fld hf (i := 6) (t := 4) (o := 6) (k := 1) (by kernel_rfl)
      have f7 : DataW.trod enc Try.prog w 0 spare held m 34 [c7] = some x7 := fld hf (i := 7) (t := 34) (o := 7) (k := 1) (by kernel_rfl)
      have f8 : DataW.trod enc Try.prog w 0 spare held m 57 [c8] = some x8 := fld hf (i := 8) (t := 57) (o := 8) (k := 1) (by kernel_rfl)
      have f9 : DataW.trod enc Try.prog w 0 spare held m 36 [c9, c10] = some x9 := fld hf (i := 9) (t := 36) (o := 9) (k := 2) (by kernel_rfl)
      have f10 : DataW.trod enc Try.prog w 0 spare held m 57 [c11] = some x10 := fld hf (i := 10) (t := 57) (o := 11) (k := 1) (by kernel_rfl)
      have f11 : DataW.trod enc Try.prog w 0 spare held m 36 [c12, c13] = some x11 := fld hf (i := 11) (t := 36) (o := 12) (k := 2) (by kernel_rfl)
      obtain ⟨b0, e0, _⟩ := DataW.trod_bool (by kernel_rfl) f0
      obtain ⟨z1, e1, _, w1⟩ := DataW.trod_int (k := .u32) (by kernel_rfl) f1
      obtain ⟨b2, e2, _⟩ := DataW.trod_bool (by kernel_rfl) f2
      obtain ⟨z3, e3, _, w3⟩ := DataW.trod_int (k := .u32) (by kernel_rfl) f3
      obtain ⟨b4, e4, _⟩ := DataW.trod_bool (by kernel_rfl) f4
      obtain ⟨z5, e5, _, w5⟩ := DataW.trod_int (k := .u32) (by kernel_rfl) f5
      obtain ⟨b6, e6, _⟩ := DataW.trod_bool (by kernel_rfl) f6
      obtain ⟨z7, e7, _, w7⟩ := DataW.trod_int (k := .u64) (by kernel_rfl) f7
      obtain ⟨z8, e8, _, w8⟩ := DataW.trod_int (k := .u32) (by kernel_rfl) f8
      obtain ⟨t9, s9, e9, u9, v9⟩ := time_open f9
      obtain ⟨z10, e10, _, w10⟩ := DataW.trod_int (k := .u32) (by kernel_rfl) f10
      obtain ⟨t11, s11, e11, u11, v11⟩ := time_open f11
      simp only [List.cons.injEq, and_true] at e0 e1 e2 e3 e4 e5 e6 e7 e8 e9 e10 e11
      obtain ⟨a9, d9⟩ := e9
      obtain ⟨a11, d11⟩ := e11
      refine ⟨⟨b0, z1, b2, z3, b4, z5, b6, z7, z8, t9, s9, z10, t11, s11⟩, ?_, ⟨wf_u32 w1, wf_u32 w3, wf_u32 w5, (wf_u64 w7).1, u9, v9, u11, v11⟩⟩
      rw [e0, e1, e2, e3, e4, e5, e6, e7, e8, a9, d9, e10, a11, d11]
      rfl
set_option maxRecDepth 100000 in
theorem world_open {n : Nat} {cs : List Value} {y : DataW H × List MemPlace} (hl : cs.length = 10) (h : DataW.trod enc Try.prog w 0 spare held n 61 cs = some y) :
    ∃ (a b : Int) (v : V8), cs = [.int .u32 a, .int .u32 b, .int .u8 v.a0, .int .u8 v.a1, .int .u8 v.a2, .int .u8 v.a3, .int .u8 v.a4, .int .u8 v.a5, .int .u8 v.a6, .int .u8 v.a7] ∧ U32 a ∧ U32 b := by
  match cs, hl with
  | [c0, c1, c2, c3, c4, c5, c6, c7, c8, c9], _ =>
    obtain ⟨xs, m, _, hx, _, hxl, hf⟩ := DataW.trod_struct (fs := Try.prog.fieldsOf 61) (by kernel_rfl) h
    match xs, hxl.trans (show (Try.prog.fieldsOf 61).size = 2 by kernel_rfl) with
    | [x0, x1], _ =>
      have f0 : DataW.trod enc Try.prog w 0 spare held m 36 [c0, c1] = some x0 := fld hf (i := 0) (t := 36) (o := 0) (k := 2) (by kernel_rfl)
      have f1 : DataW.trod enc Try.prog w 0 spare held m 41 [c2, c3, c4, c5, c6, c7, c8, c9] = some x1 := fld hf (i := 1) (t := 41) (o := 2) (k := 8) (by kernel_rfl)
      obtain ⟨a, b, e0, ua, ub⟩ := time_open f0
      obtain ⟨v, e1, _⟩ := verf_open f1
      simp only [List.cons.injEq, and_true] at e0 e1
      obtain ⟨a0, a1⟩ := e0
      obtain ⟨a2, a3, a4, a5, a6, a7, a8, a9⟩ := e1
      exact ⟨a, b, v, by rw [a0, a1, a2, a3, a4, a5, a6, a7, a8, a9], ua, ub⟩
set_option maxRecDepth 100000 in
theorem setting_open {n : Nat} {cs : List Value} {y : DataW H × List MemPlace} (hl : cs.length = 30) (h : DataW.trod enc Try.prog w 0 spare held n 63 cs = some y) (hb : bulk y.1 ≤ 1048576) :
    ∃ (p : Option Addr) (ns : List Node) (al : List Loc) (cap : Nat) (gen n : Int) (c : CredD) (pg : Option Addr) (cg : Nat) (s : SetD) (a b : Int) (v : V8), cs = [.slice p ns.length cap, .int .u32 gen, .int .i64 n, .int .u32 c.user, .int .u32 c.group, .slice pg c.groups.length cg] ++ s.cells.toList ++ [.int .u32 a, .int .u32 b, .int .u8 v.a0, .int .u8 v.a1, .int .u8 v.a2, .int .u8 v.a3, .int .u8 v.a4, .int .u8 v.a5, .int .u8 v.a6, .int .u8 v.a7] ∧ NodesAt (Low w) w p ns al ∧ NodesWf ns ∧ NumsAt (Low w) w pg c.groups ∧ c.groups.length ≤ 16777216 ∧ SetWf s ∧ U32 a ∧ U32 b := by
  match cs, hl with
  | [c0, c1, c2, c3, c4, c5, c6, c7, c8, c9, c10, c11, c12, c13, c14, c15, c16, c17, c18, c19, c20, c21, c22, c23, c24, c25, c26, c27, c28, c29], _ =>
    obtain ⟨xs, m, _, hx, _, hxl, hf⟩ := DataW.trod_struct (fs := Try.prog.fieldsOf 63) (by kernel_rfl) h
    match xs, hxl.trans (show (Try.prog.fieldsOf 63).size = 5 by kernel_rfl) with
    | [x0, x1, x2, x3, x4], _ =>
      have f0 : DataW.trod enc Try.prog w 0 spare held m 25 [c0, c1] = some x0 := fld hf (i := 0) (t := 25) (o := 0) (k := 2) (by kernel_rfl)
      have f1 : DataW.trod enc Try.prog w 0 spare held m 3 [c2] = some x1 := fld hf (i := 1) (t := 3) (o := 2) (k := 1) (by kernel_rfl)
      have f2 : DataW.trod enc Try.prog w 0 spare held m 56 [c3, c4, c5] = some x2 := fld hf (i := 2) (t := 56) (o := 3) (k := 3) (by kernel_rfl)
      have f3 : DataW.trod enc Try.prog w 0 spare held m 59 [c6, c7, c8, c9, c10, c11, c12, c13, c14, c15, c16, c17, c18, c19] = some x3 := fld hf (i := 3) (t := 59) (o := 6) (k := 14) (by kernel_rfl)
      have f4 : DataW.trod enc Try.prog w 0 spare held m 61 [c20, c21, c22, c23, c24, c25, c26, c27, c28, c29] = some x4 := fld hf (i := 4) (t := 61) (o := 20) (k := 10) (by kernel_rfl)
      have hb0 : bulk x0.1 ≤ bulkAll ([x0, x1, x2, x3, x4].map (·.1)) := bulk_part (by simp)
      have hb2 : bulk x2.1 ≤ bulkAll ([x0, x1, x2, x3, x4].map (·.1)) := bulk_part (by simp)
      rw [hx, bulk_agg] at hb
      obtain ⟨p, ns, al, cap, gen, e0, hT, hW, _, _⟩ := tree_open f0 (by omega)
      obtain ⟨n, e1, _, _⟩ := DataW.trod_int (k := .i64) (by kernel_rfl) f1
      obtain ⟨c, pg, cg, e2, hG, hgl, _, _⟩ := cred_open rfl f2
      obtain ⟨s, e3, hs⟩ := set_open rfl f3
      obtain ⟨a, b, v, e4, ua, ub⟩ := world_open rfl f4
      refine ⟨p, ns, al, cap, gen, n, c, pg, cg, s, a, b, v, ?_, hT, hW, hG, by omega, hs, ua, ub⟩
      rw [← e3, ← e4]
      simp only [List.cons.injEq, and_true] at e0 e1 e2
      obtain ⟨a0, a1⟩ := e0
      obtain ⟨a2, a3, a4⟩ := e2
      rw [a0, a1, e1, a2, a3, a4]
      rfl
end
end Go.Proofs.Ytfhhggcdmgjbcaa.Sx
