/-
  A part of the walk of the seat: laws of a small proof system, and contracts of functions, each proved. Conditions: as each theorem says.
-/
import Derived.Test.YtfhhggcdmgjbcaaProg
import Derived.Test.YtfhhggcdmgjbcaaSxArr
import Derived.Test.YtfhhggcdmgjbcaaT8
namespace Go.Proofs.Ytfhhggcdmgjbcaa.Sx
open Go Go.RowKit Go.Proofs

def putB (n : Int) : List Int := [byteAt (IntKind.u64.wrap n) 4 0, byteAt (IntKind.u64.wrap n) 4 1, byteAt (IntKind.u64.wrap n) 4 2, byteAt (IntKind.u64.wrap n) 4 3]

set_option maxHeartbeats 8000000 in
theorem Put_calls {n : Int} {w : World} :
    Calls Try.prog 84 #[.int .u32 n] w (RetN w (fun x : Option Addr × Nat => 4 ≤ x.2) (fun x => .slice x.1 4 x.2) (fun x => [own 5 1 x.1 4 x.2 (bv (putB n))])) := by
  refine calls_ofQ (args := [_]) [base w (Low w)] Try.func84 (by kernel_rfl) (by kernel_rfl) (Heap.start w) ?_
  intro Q hQ
  refine ev_seq (by kernel_rfl) ?_
  refine ev_region (n := 1) (by kernel_rfl) ?_
  refine Rg.pure (d := 2) (op := .assign (.const (.slice none 0 0))) (g := none) (v := .slice none 0 0) (by kernel_rfl) (by kernel_rfl) (pv_assign rfl) ?_
  refine Rg.fin rfl ?_
  refine at_codeS [0] [(0, _), (2, _)] [base w (Low w)] (.cons rfl (.cons rfl (.nil _))) rfl (by decide) (fun _ _ h => h) ?_
  refine ev_seq (by kernel_rfl) ?_
  refine ev_region (n := 4) (by kernel_rfl) ?_
  refine Rg.pure (d := 3) (op := .move (.tmp 0)) (g := none) (v := .int .u32 n) (by kernel_rfl) (by kernel_rfl) (pv_move rfl) ?_
  refine Rg.pure (d := 4) (op := .convert 23 34 (.tmp 3)) (g := none) (v := .int .u64 (IntKind.u64.wrap n)) (by kernel_rfl) (by kernel_rfl) (pv_convert (q' := .u64) rfl (by kernel_rfl) (by kernel_rfl)) ?_
  refine rg_callN (T := Option Addr × Nat) (d := some 5) (f := 122) (fo := .func 122) (caps := #[]) (xs := #[.tmp 4, .const (.int .i64 4)]) (ts := #[34, 3]) (g := none) (v := fun ⟨p1, c2⟩ => .slice p1 4 c2) (L := fun ⟨p1, c2⟩ => [own 5 1 p1 4 c2 (putV (IntKind.u64.wrap n) 4 4)]) (by kernel_rfl) (by kernel_rfl) rfl (by kernel_rfl) rfl (fun w hw => put_calls (m := 4) (by omega)) ?_
  rintro ⟨p1, c2⟩ hc_c2
  dsimp only [putE, List.append, HAppend.hAppend, Append.append]
  have hk_c2 : 4 ≤ c2 := hc_c2
  refine Rg.pure (d := 2) (op := .assign (.tmp 5)) (g := none) (v := .slice p1 4 c2) (by kernel_rfl) (by kernel_rfl) (pv_assign rfl) ?_
  refine Rg.fin rfl ?_
  refine at_codeS [0, 1] [(2, _)] [own 5 1 p1 4 c2 (putV (IntKind.u64.wrap n) 4 4), base w (Low w)] (.cons rfl (.nil _)) rfl (by decide) (fun _ _ h => h) ?_
  refine ev_ret (by kernel_rfl) ?_
  refine At.via (Q := Q) hQ ?_
  refine At.ret1 rfl rfl rfl ?_
  exact fun w hw => ⟨(p1, c2), by first | assumption | (show _ ≤ _; omega), rfl, hw.pick [0, 1] (by decide)⟩

set_option maxHeartbeats 8000000 in
theorem Grow_calls {n : Int} {w : World} (hn0 : 0 ≤ n) (hn1 : n ≤ 4294967296) :
    Calls Try.prog 155 #[.slice none 0 0, .int .i64 n] w (RetN w (fun x : Option Addr × Nat => n.toNat ≤ x.2) (fun x => .slice x.1 0 x.2) (fun x => [own 5 1 x.1 0 x.2 []])) := by
  refine calls_ofQ (args := [_, _]) [base w (Low w)] Try.func155 (by kernel_rfl) (by kernel_rfl) (Heap.start w) ?_
  intro Q hQ
  refine ev_seq (by kernel_rfl) ?_
  refine ev_region (n := 1) (by kernel_rfl) ?_
  refine Rg.pure (d := 4) (op := .assign (.const (.slice none 0 0))) (g := none) (v := .slice none 0 0) (by kernel_rfl) (by kernel_rfl) (pv_assign rfl) ?_
  refine Rg.fin rfl ?_
  refine at_codeS [0] [(0, _), (1, _), (4, _)] [base w (Low w)] (.cons rfl (.cons rfl (.cons rfl (.nil _)))) rfl (by decide) (fun _ _ h => h) ?_
  refine ev_seq (by kernel_rfl) ?_
  refine ev_seq (by kernel_rfl) ?_
  refine ev_region (n := 2) (by kernel_rfl) ?_
  refine Rg.pure (d := 5) (op := .move (.tmp 1)) (g := none) (v := .int .i64 n) (by kernel_rfl) (by kernel_rfl) (pv_move rfl) ?_
  refine Rg.pure (d := 6) (op := .binOp .lss 3 (.tmp 5) (.const (.int .i64 0)) 3) (g := none) (v := .bool (decide (n < 0))) (by kernel_rfl) (by kernel_rfl) (pv_lss rfl rfl) ?_
  refine Rg.fin rfl ?_
  refine at_codeS [0] [(0, _), (1, _), (4, _), (6, _)] [base w (Low w)] (.cons rfl (.cons rfl (.cons rfl (.cons rfl (.nil _))))) rfl (by decide) (fun _ _ h => h) ?_
  refine ev_cond (t := 6) (by kernel_rfl) rfl (fun h1 => ?_) (fun h1 => ?_)
  ·
    have h2 := of_decide_eq_true h1
    exact (show False from by omega).elim
  ·
    have h3 := of_decide_eq_false h1
    refine ev_skip (by kernel_rfl) ?_
    refine at_codeS [0] [(0, _), (1, _), (4, _)] [base w (Low w)] (.cons rfl (.cons rfl (.cons rfl (.nil _)))) rfl (by decide) (fun _ _ h => h) ?_
    refine ev_seq (by kernel_rfl) ?_
    refine ev_seq (by kernel_rfl) ?_
    refine ev_region (n := 8) (by kernel_rfl) ?_
    refine Rg.pure (d := 8) (op := .move (.tmp 1)) (g := none) (v := .int .i64 n) (by kernel_rfl) (by kernel_rfl) (pv_move rfl) ?_
    refine Rg.pure (d := 9) (op := .move (.tmp 0)) (g := none) (v := .slice none 0 0) (by kernel_rfl) (by kernel_rfl) (pv_move rfl) ?_
    refine Rg.pure (d := 10) (op := .call { callee := .builtin .cap, args := #[.tmp 9], argTypes := #[29] }) (g := none) (v := .int .i64 0) (by kernel_rfl) (by kernel_rfl) (pv_cap_slice rfl (by kernel_rfl)) ?_
    refine Rg.pure (d := 11) (op := .move (.tmp 0)) (g := none) (v := .slice none 0 0) (by kernel_rfl) (by kernel_rfl) (pv_move rfl) ?_
    refine Rg.pure (d := 12) (op := .call { callee := .builtin .len, args := #[.tmp 11], argTypes := #[29] }) (g := none) (v := .int .i64 (0 : Int)) (by kernel_rfl) (by kernel_rfl) (pv_len_slice rfl (by kernel_rfl)) ?_
    refine Rg.pure (d := 13) (op := .binOp .sub 3 (.tmp 10) (.tmp 12) 3) (g := none) (v := .int .i64 (0 - (0 : Int))) (by kernel_rfl) (by kernel_rfl) (pv_subb rfl rfl (in_i64 (by omega) (by omega))) ?_
    refine Rg.pure (d := 14) (op := .binOp .sub 3 (.tmp 8) (.tmp 13) 3) (g := none) (v := .int .i64 (n - (0 - (0 : Int)))) (by kernel_rfl) (by kernel_rfl) (pv_subb rfl rfl (in_i64 (by omega) (by omega))) ?_
    refine Rg.pure (d := 1) (op := .assign (.tmp 14)) (g := none) (v := .int .i64 (n - (0 - (0 : Int)))) (by kernel_rfl) (by kernel_rfl) (pv_assign rfl) ?_
    refine Rg.fin rfl ?_
    refine at_codeS [0] [(0, _), (1, _), (4, _)] [base w (Low w)] (.cons rfl (.cons rfl (.cons rfl (.nil _)))) rfl (by decide) (fun _ _ h => h) ?_
    refine ev_seq (by kernel_rfl) ?_
    refine ev_region (n := 2) (by kernel_rfl) ?_
    refine Rg.pure (d := 15) (op := .move (.tmp 1)) (g := none) (v := .int .i64 (n - (0 - (0 : Int)))) (by kernel_rfl) (by kernel_rfl) (pv_move rfl) ?_
    refine Rg.pure (d := 16) (op := .binOp .gtr 3 (.tmp 15) (.const (.int .i64 0)) 3) (g := none) (v := .bool (decide (0 < (n - (0 - (0 : Int)))))) (by kernel_rfl) (by kernel_rfl) (pv_gtr rfl rfl) ?_
    refine Rg.fin rfl ?_
    refine at_codeS [0] [(0, _), (1, _), (4, _), (16, _)] [base w (Low w)] (.cons rfl (.cons rfl (.cons rfl (.cons rfl (.nil _))))) rfl (by decide) (fun _ _ h => h) ?_
    refine ev_cond (t := 16) (by kernel_rfl) rfl (fun h4 => ?_) (fun h4 => ?_)
    ·
      have h5 := of_decide_eq_true h4
      refine ev_region (n := 10) (by kernel_rfl) ?_
      refine Rg.pure (d := 17) (op := .move (.tmp 0)) (g := none) (v := .slice none 0 0) (by kernel_rfl) (by kernel_rfl) (pv_move rfl) ?_
      refine Rg.pure (d := 18) (op := .move (.tmp 0)) (g := none) (v := .slice none 0 0) (by kernel_rfl) (by kernel_rfl) (pv_move rfl) ?_
      refine Rg.pure (d := 19) (op := .call { callee := .builtin .cap, args := #[.tmp 18], argTypes := #[29] }) (g := none) (v := .int .i64 0) (by kernel_rfl) (by kernel_rfl) (pv_cap_slice rfl (by kernel_rfl)) ?_
      refine Rg.pure (d := 20) (op := .slice 29 (.tmp 17) none (some (.tmp 19)) none) (g := none) (v := .slice none ((0 : Int).toNat) 0) (by kernel_rfl) (by kernel_rfl) (pv_slice_hi rfl rfl (e := 5) (sz := 1) (by kernel_rfl) (by omega) (by omega)) ?_
      refine Rg.pure (d := 21) (op := .move (.tmp 1)) (g := none) (v := .int .i64 (n - (0 - (0 : Int)))) (by kernel_rfl) (by kernel_rfl) (pv_move rfl) ?_
      refine rg_appendZ (d := 22) (t := 29) (e := 5) (x := .tmp 20) (y := .tmp 21) (ty := 3) (g := none) (q := .i64) (by kernel_rfl) (by kernel_rfl) rfl rfl (by kernel_rfl) (zv := .int .u8 0) (by kernel_rfl) (by kernel_rfl) (by kernel_rfl) (by omega) (by omega) (by show bytesT Try.prog 5 ≤ 4096; rw [show bytesT Try.prog 5 = 1 from by kernel_rfl]; omega) ?_
      intro p1 c2 hc_c2
      refine Rg.pure (d := 23) (op := .move (.tmp 0)) (g := none) (v := .slice none 0 0) (by kernel_rfl) (by kernel_rfl) (pv_move rfl) ?_
      refine Rg.pure (d := 24) (op := .call { callee := .builtin .len, args := #[.tmp 23], argTypes := #[29] }) (g := none) (v := .int .i64 (0 : Int)) (by kernel_rfl) (by kernel_rfl) (pv_len_slice rfl (by kernel_rfl)) ?_
      refine Rg.pure (d := 25) (op := .slice 29 (.tmp 22) none (some (.tmp 24)) none) (g := none) (v := .slice p1 (((0 : Int)).toNat) c2) (by kernel_rfl) (by kernel_rfl) (pv_slice_hi rfl rfl (e := 5) (sz := 1) (by kernel_rfl) (by omega) (by omega)) ?_
      refine Rg.pure (d := 0) (op := .assign (.tmp 25)) (g := none) (v := .slice p1 (((0 : Int)).toNat) c2) (by kernel_rfl) (by kernel_rfl) (pv_assign rfl) ?_
      refine Rg.fin rfl ?_
      refine at_codeS [0, 1] [(0, _), (4, _)] [own 5 1 p1 0 c2 [], base w (Low w)] (.cons rfl (.cons rfl (.nil _))) rfl (by decide) (fun _ _ h => h) ?_
      refine ev_seq (by kernel_rfl) ?_
      refine ev_region (n := 2) (by kernel_rfl) ?_
      refine Rg.pure (d := 26) (op := .move (.tmp 0)) (g := none) (v := .slice p1 (((0 : Int)).toNat) c2) (by kernel_rfl) (by kernel_rfl) (pv_move rfl) ?_
      refine Rg.pure (d := 4) (op := .assign (.tmp 26)) (g := none) (v := .slice p1 (((0 : Int)).toNat) c2) (by kernel_rfl) (by kernel_rfl) (pv_assign rfl) ?_
      refine Rg.fin rfl ?_
      refine at_codeS [0, 1] [(4, _)] [own 5 1 p1 0 c2 [], base w (Low w)] (.cons rfl (.nil _)) rfl (by decide) (fun _ _ h => h) ?_
      refine ev_ret (by kernel_rfl) ?_
      refine At.via (Q := Q) hQ ?_
      refine At.ret1 rfl rfl rfl ?_
      exact fun w hw => ⟨(p1, c2), by show n.toNat ≤ c2; (have := hc_c2; rw [show n - (0 - 0) = n by omega] at this; exact this), rfl, hw.pick [0, 1] (by decide)⟩
    ·
      have h6 := of_decide_eq_false h4
      refine ev_skip (by kernel_rfl) ?_
      refine at_codeS [0] [(0, _), (4, _)] [base w (Low w)] (.cons rfl (.cons rfl (.nil _))) rfl (by decide) (fun _ _ h => h) ?_
      refine ev_seq (by kernel_rfl) ?_
      refine ev_region (n := 2) (by kernel_rfl) ?_
      refine Rg.pure (d := 26) (op := .move (.tmp 0)) (g := none) (v := .slice none 0 0) (by kernel_rfl) (by kernel_rfl) (pv_move rfl) ?_
      refine Rg.pure (d := 4) (op := .assign (.tmp 26)) (g := none) (v := .slice none 0 0) (by kernel_rfl) (by kernel_rfl) (pv_assign rfl) ?_
      refine Rg.fin rfl ?_
      refine at_codeS [0] [(4, _)] [base w (Low w)] (.cons rfl (.nil _)) rfl (by decide) (fun _ _ h => h) ?_
      refine ev_ret (by kernel_rfl) ?_
      refine At.via (Q := Q) hQ ?_
      refine At.ret1 rfl rfl rfl ?_
      exact fun w hw => ⟨(none, 0), by show n.toNat ≤ 0; omega, rfl, (hw.ownNil 5 1).pick [0, 1] (by decide)⟩

set_option maxHeartbeats 8000000 in
theorem Concat_calls {p : Option Addr} {rs : List Row} {cap : Nat} {w : World} (hR : SlicesAt (Low w) w p rs) (hl : rs.length ≤ 1048576) (ht : lenTo rs rs.length ≤ 1073741824) :
    Calls Try.prog 123 #[.slice p rs.length cap] w (RetN w (fun x : Option Addr × Nat => lenTo rs rs.length ≤ x.2) (fun x => .slice x.1 (lenTo rs rs.length) x.2) (fun x => [own 5 1 x.1 (lenTo rs rs.length) x.2 (bv (catB rs rs.length))])) := by
  refine calls_ofQ (args := [_]) [base w (Low w)] Try.func123 (by kernel_rfl) (by kernel_rfl) (Heap.start w) ?_
  intro Q hQ
  refine ev_seq (by kernel_rfl) ?_
  refine ev_region (n := 1) (by kernel_rfl) ?_
  refine Rg.pure (d := 2) (op := .assign (.const (.slice none 0 0))) (g := none) (v := .slice none 0 0) (by kernel_rfl) (by kernel_rfl) (pv_assign rfl) ?_
  refine Rg.fin rfl ?_
  refine at_codeS [0] [(0, _), (2, _)] [base w (Low w)] (.cons rfl (.cons rfl (.nil _))) rfl (by decide) (fun _ _ h => h) ?_
  refine ev_seq (by kernel_rfl) ?_
  refine ev_region (n := 1) (by kernel_rfl) ?_
  refine Rg.pure (d := 3) (op := .assign (.const (.int .i64 0))) (g := none) (v := .int .i64 0) (by kernel_rfl) (by kernel_rfl) (pv_assign rfl) ?_
  refine Rg.fin rfl ?_
  refine at_codeS [0] [(0, _), (2, _), (3, _)] [base w (Low w)] (.cons rfl (.cons rfl (.cons rfl (.nil _)))) rfl (by decide) (fun _ _ h => h) ?_
  refine ev_seq (by kernel_rfl) ?_
  refine ev_seq (by kernel_rfl) ?_
  refine ev_region (n := 3) (by kernel_rfl) ?_
  refine Rg.pure (d := 9) (op := .move (.tmp 0)) (g := none) (v := .slice p rs.length cap) (by kernel_rfl) (by kernel_rfl) (pv_move rfl) ?_
  refine Rg.pure (d := 10) (op := .call { callee := .builtin .len, args := #[.tmp 9], argTypes := #[237] }) (g := none) (v := .int .i64 (rs.length : Int)) (by kernel_rfl) (by kernel_rfl) (pv_len_slice rfl (by kernel_rfl)) ?_
  refine Rg.pure (d := 11) (op := .move (.const (.int .i64 0))) (g := none) (v := .int .i64 0) (by kernel_rfl) (by kernel_rfl) (pv_move rfl) ?_
  refine Rg.fin rfl ?_
  refine at_codeS [0] [(0, _), (2, _), (3, _), (9, _), (10, _), (11, _)] [base w (Low w)] (.cons rfl (.cons rfl (.cons rfl (.cons rfl (.cons rfl (.cons rfl (.nil _))))))) rfl (by decide) (fun _ _ h => h) ?_
  refine ev_block (id := 0) (by kernel_rfl) ?_
  refine ev_loop (T := Nat) (fun k => [(2, .slice none 0 0), (0, .slice p rs.length cap), (3, .int .i64 (lenTo rs k : Int)), (9, .slice p rs.length cap), (10, .int .i64 (rs.length : Int)), (11, .int .i64 (k : Int))]) (fun k => [base w (Low w)]) (fun k => k ≤ rs.length) (fun k => rs.length - k) 0 [0] (by kernel_rfl) (by omega) (.cons (rfl) (.cons (rfl) (.cons (rfl) (.cons (rfl) (.cons (rfl) (.cons (rfl) (.nil _))))))) rfl (by decide) ?_
  rintro k (hk : k ≤ rs.length)
  show Ev _ _ [(2, .slice none 0 0), (0, .slice p rs.length cap), (3, .int .i64 (lenTo rs k : Int)), (9, .slice p rs.length cap), (10, .int .i64 (rs.length : Int)), (11, .int .i64 (k : Int))] [base w (Low w)] _
  have hb1 := lenTo_all rs k
  have hb2 := lenTo_all rs (k + 1)
  simp only [lenTo] at hb2
  refine ev_seq (by kernel_rfl) ?_
  refine ev_region (n := 1) (by kernel_rfl) ?_
  refine Rg.pure (d := 12) (op := .binOp .lss 3 (.tmp 11) (.tmp 10) 3) (g := none) (v := .bool (decide ((k : Int) < (rs.length : Int)))) (by kernel_rfl) (by kernel_rfl) (pv_lss rfl rfl) ?_
  refine Rg.fin rfl ?_
  refine at_codeS [0] [(0, _), (2, _), (3, _), (9, _), (10, _), (11, _), (12, _)] [base w (Low w)] (.cons rfl (.cons rfl (.cons rfl (.cons rfl (.cons rfl (.cons rfl (.cons rfl (.nil _)))))))) rfl (by decide) (fun _ _ h => h) ?_
  refine ev_seq (by kernel_rfl) ?_
  refine ev_cond (t := 12) (by kernel_rfl) rfl (fun h1 => ?_) (fun h1 => ?_)
  ·
    have h2 := of_decide_eq_true h1
    refine ev_skip (by kernel_rfl) ?_
    refine at_codeS [0] [(0, _), (2, _), (3, _), (9, _), (10, _), (11, _), (12, _)] [base w (Low w)] (.cons rfl (.cons rfl (.cons rfl (.cons rfl (.cons rfl (.cons rfl (.cons rfl (.nil _)))))))) rfl (by decide) (fun _ _ h => h) ?_
    refine ev_seq (by kernel_rfl) ?_
    refine ev_block (id := 1) (by kernel_rfl) ?_
    refine ev_seq (by kernel_rfl) ?_
    refine ev_region (n := 3) (by kernel_rfl) ?_
    have ⟨q1, o2, hp3⟩ := hR.rows.adr (by omega)
    refine Rg.pure (d := 13) (op := .indexAddr 237 (.tmp 9) (.tmp 11)) (g := none) (v := .pointer (some ⟨q1, o2 + ((k : Int)).toNat * 1, none⟩)) (by kernel_rfl) (by kernel_rfl) (pv_indexAddr' rfl hp3 rfl (e := 29) (sz := 1) (by kernel_rfl) (by omega) (by omega)) ?_
    refine Rg.pure (d := 14) (op := .load 29 (.tmp 13)) (g := none) (v := .slice ((rw_ rs k).p) ((rw_ rs k).xs.length) ((rw_ rs k).cap)) (by kernel_rfl) (by kernel_rfl) (pv_load rfl (by kernel_rfl) (fun w hw => ((hR).keep (hw.at_ 0 rfl) (fun _ h => h)).rows.cell _ _ hp3 _ (by omega) 0 (by decide))) ?_
    refine Rg.pure (d := 5) (op := .assign (.tmp 14)) (g := none) (v := .slice ((rw_ rs k).p) ((rw_ rs k).xs.length) ((rw_ rs k).cap)) (by kernel_rfl) (by kernel_rfl) (pv_assign rfl) ?_
    refine Rg.fin rfl ?_
    refine at_codeS [0] [(0, _), (2, _), (3, _), (5, _), (9, _), (10, _), (11, _), (12, _), (13, _), (14, _)] [base w (Low w)] (.cons rfl (.cons rfl (.cons rfl (.cons rfl (.cons rfl (.cons rfl (.cons rfl (.cons rfl (.cons rfl (.cons rfl (.nil _))))))))))) rfl (by decide) (fun _ _ h => h) ?_
    refine ev_seq (by kernel_rfl) ?_
    refine ev_region (n := 5) (by kernel_rfl) ?_
    refine Rg.pure (d := 15) (op := .move (.tmp 3)) (g := none) (v := .int .i64 (lenTo rs k : Int)) (by kernel_rfl) (by kernel_rfl) (pv_move rfl) ?_
    refine Rg.pure (d := 16) (op := .move (.tmp 5)) (g := none) (v := .slice ((rw_ rs k).p) ((rw_ rs k).xs.length) ((rw_ rs k).cap)) (by kernel_rfl) (by kernel_rfl) (pv_move rfl) ?_
    refine Rg.pure (d := 17) (op := .call { callee := .builtin .len, args := #[.tmp 16], argTypes := #[29] }) (g := none) (v := .int .i64 ((rw_ rs k).xs.length : Int)) (by kernel_rfl) (by kernel_rfl) (pv_len_slice rfl (by kernel_rfl)) ?_
    refine Rg.pure (d := 18) (op := .binOp .add 3 (.tmp 15) (.tmp 17) 3) (g := none) (v := .int .i64 ((lenTo rs k : Int) + ((rw_ rs k).xs.length : Int))) (by kernel_rfl) (by kernel_rfl) (pv_addb rfl rfl (in_i64 (by omega) (by omega))) ?_
    refine Rg.pure (d := 3) (op := .assign (.tmp 18)) (g := none) (v := .int .i64 ((lenTo rs k : Int) + ((rw_ rs k).xs.length : Int))) (by kernel_rfl) (by kernel_rfl) (pv_assign rfl) ?_
    refine Rg.fin rfl ?_
    refine at_codeS [0] [(0, _), (2, _), (3, _), (5, _), (9, _), (10, _), (11, _), (12, _), (13, _), (14, _), (15, _), (16, _), (17, _), (18, _)] [base w (Low w)] (.cons rfl (.cons rfl (.cons rfl (.cons rfl (.cons rfl (.cons rfl (.cons rfl (.cons rfl (.cons rfl (.cons rfl (.cons rfl (.cons rfl (.cons rfl (.cons rfl (.nil _))))))))))))))) rfl (by decide) (fun _ _ h => h) ?_
    refine ev_seq (by kernel_rfl) ?_
    refine ev_region (n := 2) (by kernel_rfl) ?_
    refine Rg.pure (d := 19) (op := .move (.tmp 3)) (g := none) (v := .int .i64 ((lenTo rs k : Int) + ((rw_ rs k).xs.length : Int))) (by kernel_rfl) (by kernel_rfl) (pv_move rfl) ?_
    refine Rg.pure (d := 20) (op := .binOp .lss 3 (.tmp 19) (.const (.int .i64 0)) 3) (g := none) (v := .bool (decide (((lenTo rs k : Int) + ((rw_ rs k).xs.length : Int)) < 0))) (by kernel_rfl) (by kernel_rfl) (pv_lss rfl rfl) ?_
    refine Rg.fin rfl ?_
    refine at_codeS [0] [(0, _), (2, _), (3, _), (5, _), (9, _), (10, _), (11, _), (12, _), (13, _), (14, _), (15, _), (16, _), (17, _), (18, _), (19, _), (20, _)] [base w (Low w)] (.cons rfl (.cons rfl (.cons rfl (.cons rfl (.cons rfl (.cons rfl (.cons rfl (.cons rfl (.cons rfl (.cons rfl (.cons rfl (.cons rfl (.cons rfl (.cons rfl (.cons rfl (.cons rfl (.nil _))))))))))))))))) rfl (by decide) (fun _ _ h => h) ?_
    refine ev_cond (t := 20) (by kernel_rfl) rfl (fun h3 => ?_) (fun h3 => ?_)
    ·
      have h4 := of_decide_eq_true h3
      exact (show False from by omega).elim
    ·
      have h5 := of_decide_eq_false h3
      refine ev_skip (by kernel_rfl) ?_
      refine at_codeS [0] [(0, _), (2, _), (3, _), (5, _), (9, _), (10, _), (11, _), (12, _), (13, _), (14, _), (15, _), (16, _), (17, _), (18, _), (19, _), (20, _)] [base w (Low w)] (.cons rfl (.cons rfl (.cons rfl (.cons rfl (.cons rfl (.cons rfl (.cons rfl (.cons rfl (.cons rfl (.cons rfl (.cons rfl (.cons rfl (.cons rfl (.cons rfl (.cons rfl (.cons rfl (.nil _))))))))))))))))) rfl (by decide) (fun _ _ h => h) ?_
      refine ev_region (n := 2) (by kernel_rfl) ?_
      refine Rg.pure (d := 22) (op := .binOp .add 3 (.tmp 11) (.const (.int .i64 1)) 3) (g := none) (v := .int .i64 ((k : Int) + 1)) (by kernel_rfl) (by kernel_rfl) (pv_addb rfl rfl (in_i64 (by omega) (by omega))) ?_
      refine Rg.pure (d := 11) (op := .move (.tmp 22)) (g := none) (v := .int .i64 ((k : Int) + 1)) (by kernel_rfl) (by kernel_rfl) (pv_move rfl) ?_
      refine Rg.fin rfl ?_
      refine At.round (fun _ _ h => h) (k + 1) [0] (by omega) (by show rs.length - (k + 1) < rs.length - k; omega) (.cons (rfl) (.cons (rfl) (.cons (rfl) (.cons (rfl) (.cons (rfl) (.cons (rfl) (.nil _))))))) rfl (by decide)
  ·
    have h6 := of_decide_eq_false h1
    refine ev_exit (id := 0) (by kernel_rfl) ?_
    refine at_codeS [0] [(0, _), (2, _), (3, _)] [base w (Low w)] (.cons rfl (.cons rfl (.cons rfl (.nil _)))) rfl (by decide) (fun _ _ h => h) ?_
    refine ev_seq (by kernel_rfl) ?_
    refine ev_region (n := 3) (by kernel_rfl) ?_
    refine Rg.pure (d := 23) (op := .move (.tmp 3)) (g := none) (v := .int .i64 (lenTo rs k : Int)) (by kernel_rfl) (by kernel_rfl) (pv_move rfl) ?_
    refine rg_callN (T := Option Addr × Nat) (d := some 24) (f := 155) (fo := .func 155) (caps := #[]) (xs := #[.const (.slice none 0 0), .tmp 23]) (ts := #[29, 3]) (g := none) (v := fun ⟨p4, c5⟩ => .slice p4 0 c5) (L := fun ⟨p4, c5⟩ => [own 5 1 p4 0 c5 []]) (by kernel_rfl) (by kernel_rfl) rfl (by kernel_rfl) rfl (fun w hw => Grow_calls (by omega) (by omega)) ?_
    rintro ⟨p4, c5⟩ hc_c5
    dsimp only [putE, List.append, HAppend.hAppend, Append.append]
    refine Rg.pure (d := 6) (op := .assign (.tmp 24)) (g := none) (v := .slice p4 0 c5) (by kernel_rfl) (by kernel_rfl) (pv_assign rfl) ?_
    refine Rg.fin rfl ?_
    refine at_codeS [0, 1] [(0, _), (2, _), (6, _)] [own 5 1 p4 0 c5 [], base w (Low w)] (.cons rfl (.cons rfl (.cons rfl (.nil _)))) rfl (by decide) (fun _ _ h => h) ?_
    refine ev_seq (by kernel_rfl) ?_
    refine ev_seq (by kernel_rfl) ?_
    refine ev_region (n := 3) (by kernel_rfl) ?_
    refine Rg.pure (d := 25) (op := .move (.tmp 0)) (g := none) (v := .slice p rs.length cap) (by kernel_rfl) (by kernel_rfl) (pv_move rfl) ?_
    refine Rg.pure (d := 26) (op := .call { callee := .builtin .len, args := #[.tmp 25], argTypes := #[237] }) (g := none) (v := .int .i64 (rs.length : Int)) (by kernel_rfl) (by kernel_rfl) (pv_len_slice rfl (by kernel_rfl)) ?_
    refine Rg.pure (d := 27) (op := .move (.const (.int .i64 0))) (g := none) (v := .int .i64 0) (by kernel_rfl) (by kernel_rfl) (pv_move rfl) ?_
    refine Rg.fin rfl ?_
    refine at_codeS [0, 1] [(2, _), (6, _), (25, _), (26, _), (27, _)] [own 5 1 p4 0 c5 [], base w (Low w)] (.cons rfl (.cons rfl (.cons rfl (.cons rfl (.cons rfl (.nil _)))))) rfl (by decide) (fun _ _ h => h) ?_
    refine ev_block (id := 2) (by kernel_rfl) ?_
    refine ev_loop (T := Nat × Option Addr × Nat) (fun x_ => (fun k p1 c1 => [(2, .slice none 0 0), (6, .slice p1 (lenTo rs k) c1), (25, .slice p rs.length cap), (26, .int .i64 (rs.length : Int)), (27, .int .i64 (k : Int))]) x_.1 x_.2.1 x_.2.2) (fun x_ => (fun k p1 c1 => [own 5 1 p1 (lenTo rs k) c1 (catV rs k), base w (Low w)]) x_.1 x_.2.1 x_.2.2) (fun x_ => (fun k p1 c1 => k ≤ rs.length ∧ lenTo rs k ≤ c1) x_.1 x_.2.1 x_.2.2) (fun x_ => (fun k p1 c1 => rs.length - k) x_.1 x_.2.1 x_.2.2) (0, p4, c5) [0, 1] (by kernel_rfl) ⟨Nat.zero_le _, Nat.zero_le _⟩ (.cons (rfl) (.cons (rfl) (.cons (rfl) (.cons (rfl) (.cons (rfl) (.nil _)))))) rfl (by decide) ?_
    rintro ⟨k, p1, c1⟩ ⟨(hk : k ≤ rs.length), (hk2 : lenTo rs k ≤ c1)⟩
    show Ev _ _ [(2, .slice none 0 0), (6, .slice p1 (lenTo rs k) c1), (25, .slice p rs.length cap), (26, .int .i64 (rs.length : Int)), (27, .int .i64 (k : Int))] [own 5 1 p1 (lenTo rs k) c1 (catV rs k), base w (Low w)] _
    have hb1 := lenTo_all rs k
    have hb2 := lenTo_all rs (k + 1)
    simp only [lenTo] at hb2
    refine ev_seq (by kernel_rfl) ?_
    refine ev_region (n := 1) (by kernel_rfl) ?_
    refine Rg.pure (d := 28) (op := .binOp .lss 3 (.tmp 27) (.tmp 26) 3) (g := none) (v := .bool (decide ((k : Int) < (rs.length : Int)))) (by kernel_rfl) (by kernel_rfl) (pv_lss rfl rfl) ?_
    refine Rg.fin rfl ?_
    refine at_codeS [0, 1] [(2, _), (6, _), (25, _), (26, _), (27, _), (28, _)] [own 5 1 p1 (lenTo rs k) c1 (catV rs k), base w (Low w)] (.cons rfl (.cons rfl (.cons rfl (.cons rfl (.cons rfl (.cons rfl (.nil _))))))) rfl (by decide) (fun _ _ h => h) ?_
    refine ev_seq (by kernel_rfl) ?_
    refine ev_cond (t := 28) (by kernel_rfl) rfl (fun h7 => ?_) (fun h7 => ?_)
    ·
      have h8 := of_decide_eq_true h7
      refine ev_skip (by kernel_rfl) ?_
      refine at_codeS [0, 1] [(2, _), (6, _), (25, _), (26, _), (27, _), (28, _)] [own 5 1 p1 (lenTo rs k) c1 (catV rs k), base w (Low w)] (.cons rfl (.cons rfl (.cons rfl (.cons rfl (.cons rfl (.cons rfl (.nil _))))))) rfl (by decide) (fun _ _ h => h) ?_
      refine ev_seq (by kernel_rfl) ?_
      refine ev_block (id := 3) (by kernel_rfl) ?_
      refine ev_seq (by kernel_rfl) ?_
      refine ev_region (n := 3) (by kernel_rfl) ?_
      have ⟨q6, o7, hp8⟩ := hR.rows.adr (by omega)
      refine Rg.pure (d := 29) (op := .indexAddr 237 (.tmp 25) (.tmp 27)) (g := none) (v := .pointer (some ⟨q6, o7 + ((k : Int)).toNat * 1, none⟩)) (by kernel_rfl) (by kernel_rfl) (pv_indexAddr' rfl hp8 rfl (e := 29) (sz := 1) (by kernel_rfl) (by omega) (by omega)) ?_
      refine Rg.pure (d := 30) (op := .load 29 (.tmp 29)) (g := none) (v := .slice ((rw_ rs k).p) ((rw_ rs k).xs.length) ((rw_ rs k).cap)) (by kernel_rfl) (by kernel_rfl) (pv_load rfl (by kernel_rfl) (fun w hw => ((hR).keep (hw.at_ 1 rfl) (fun _ h => h)).rows.cell _ _ hp8 _ (by omega) 0 (by decide))) ?_
      refine Rg.pure (d := 8) (op := .assign (.tmp 30)) (g := none) (v := .slice ((rw_ rs k).p) ((rw_ rs k).xs.length) ((rw_ rs k).cap)) (by kernel_rfl) (by kernel_rfl) (pv_assign rfl) ?_
      refine Rg.fin rfl ?_
      refine at_codeS [0, 1] [(2, _), (6, _), (8, _), (25, _), (26, _), (27, _), (28, _), (29, _), (30, _)] [own 5 1 p1 (lenTo rs k) c1 (catV rs k), base w (Low w)] (.cons rfl (.cons rfl (.cons rfl (.cons rfl (.cons rfl (.cons rfl (.cons rfl (.cons rfl (.cons rfl (.nil _)))))))))) rfl (by decide) (fun _ _ h => h) ?_
      refine ev_region (n := 4) (by kernel_rfl) ?_
      refine Rg.pure (d := 31) (op := .move (.tmp 6)) (g := none) (v := .slice p1 (lenTo rs k) c1) (by kernel_rfl) (by kernel_rfl) (pv_move rfl) ?_
      refine Rg.pure (d := 32) (op := .move (.tmp 8)) (g := none) (v := .slice ((rw_ rs k).p) ((rw_ rs k).xs.length) ((rw_ rs k).cap)) (by kernel_rfl) (by kernel_rfl) (pv_move rfl) ?_
      refine rg_append (d := 33) (t := 29) (e := 5) (sz := 1) (x := .tmp 31) (y := .tmp 32) (ty := 29) (g := none) (m := (rw_ rs k).xs.length) (ys := bv ((rw_ rs k).xs)) (zv := .int .u8 0) 0 (by kernel_rfl) (by kernel_rfl) rfl rfl (by kernel_rfl) (by kernel_rfl) (by kernel_rfl) (by kernel_rfl) (by kernel_rfl) rfl rfl (by rw [bv_length, Nat.mul_one]) (bv_one _) (fun w hw => firstCells_bytes (((hR.row k)).keep (hw.at_ 1 rfl) (fun _ h => h))) (by show (2 * ((lenTo rs k) + ((rw_ rs k).xs.length)) + 192) * bytesT Try.prog 5 ≤ 281474976710656; rw [show bytesT Try.prog 5 = 1 from by kernel_rfl]; omega) (by kernel_rfl) ?_
      intro p9 c10 hc_c10 he_c10
      refine Rg.pure (d := 6) (op := .assign (.tmp 33)) (g := none) (v := .slice p9 ((lenTo rs k) + ((rw_ rs k).xs.length)) c10) (by kernel_rfl) (by kernel_rfl) (pv_assign rfl) ?_
      refine Rg.fin rfl ?_
      refine at_codeS [0, 1] [(2, _), (6, _), (8, _), (25, _), (26, _), (27, _), (28, _), (29, _), (30, _), (31, _), (32, _), (33, _)] [own 5 1 p9 ((lenTo rs k) + ((rw_ rs k).xs.length)) c10 ((catV rs k) ++ (bv ((rw_ rs k).xs))), base w (Low w)] (.cons rfl (.cons rfl (.cons rfl (.cons rfl (.cons rfl (.cons rfl (.cons rfl (.cons rfl (.cons rfl (.cons rfl (.cons rfl (.cons rfl (.nil _))))))))))))) rfl (by decide) (fun _ _ h => h) ?_
      refine ev_region (n := 2) (by kernel_rfl) ?_
      refine Rg.pure (d := 34) (op := .binOp .add 3 (.tmp 27) (.const (.int .i64 1)) 3) (g := none) (v := .int .i64 ((k : Int) + 1)) (by kernel_rfl) (by kernel_rfl) (pv_addb rfl rfl (in_i64 (by omega) (by omega))) ?_
      refine Rg.pure (d := 27) (op := .move (.tmp 34)) (g := none) (v := .int .i64 ((k : Int) + 1)) (by kernel_rfl) (by kernel_rfl) (pv_move rfl) ?_
      refine Rg.fin rfl ?_
      refine At.round (t := (k, p1, c1)) (fun _ _ h => h) (k + 1, p9, c10) [0, 1] ⟨(by show k + 1 ≤ rs.length; omega), (by show lenTo rs k + _ ≤ _; exact hc_c10)⟩ (by show rs.length - (k + 1) < rs.length - k; omega) (.cons (rfl) (.cons (rfl) (.cons (rfl) (.cons (rfl) (.cons (rfl) (.nil _)))))) rfl (by decide)
    ·
      have h9 := of_decide_eq_false h7
      refine ev_exit (id := 2) (by kernel_rfl) ?_
      refine at_codeS [0, 1] [(2, _), (6, _)] [own 5 1 p1 (lenTo rs k) c1 (catV rs k), base w (Low w)] (.cons rfl (.cons rfl (.nil _))) rfl (by decide) (fun _ _ h => h) ?_
      refine ev_seq (by kernel_rfl) ?_
      refine ev_region (n := 2) (by kernel_rfl) ?_
      refine Rg.pure (d := 35) (op := .move (.tmp 6)) (g := none) (v := .slice p1 (lenTo rs k) c1) (by kernel_rfl) (by kernel_rfl) (pv_move rfl) ?_
      refine Rg.pure (d := 2) (op := .assign (.tmp 35)) (g := none) (v := .slice p1 (lenTo rs k) c1) (by kernel_rfl) (by kernel_rfl) (pv_assign rfl) ?_
      refine Rg.fin rfl ?_
      refine at_codeS [0, 1] [(2, _)] [own 5 1 p1 (lenTo rs k) c1 (catV rs k), base w (Low w)] (.cons rfl (.nil _)) rfl (by decide) (fun _ _ h => h) ?_
      refine ev_ret (by kernel_rfl) ?_
      refine At.via (Q := Q) hQ ?_
      refine At.ret1 rfl rfl rfl ?_
      exact fun w hw => ⟨(p1, c1), (by show lenTo rs rs.length ≤ c1; have e : k = rs.length := (by omega); subst e; exact hk2), (by have e : k = rs.length := (by omega); subst e; rfl), (by have e : k = rs.length := (by omega); subst e; rw [← catV_eq]; exact hw.pick [0, 1] (by decide))⟩

end Go.Proofs.Ytfhhggcdmgjbcaa.Sx
