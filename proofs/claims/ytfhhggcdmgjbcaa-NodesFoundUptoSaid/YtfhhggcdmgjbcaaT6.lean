/-
  A part of the walk of the seat: laws of a small proof system, and contracts of functions, each proved. Conditions: as each theorem says.
-/
import Derived.Test.YtfhhggcdmgjbcaaProg
import Derived.Test.YtfhhggcdmgjbcaaSxMore
namespace Go.Proofs.Ytfhhggcdmgjbcaa.Sx
open Go Go.RowKit Go.Proofs

def thereS (ns : List Node) (n : Int) : Bool := (decide (0 < n) && decide (n < (ns.length : Int))) && !decide ((nd ns n.toNat).kind = 0)
set_option maxHeartbeats 8000000 in
theorem there_calls {p : Option Addr} {ns : List Node} {cap : Nat} {gen : Int} {n : Int} {w : World} (hT : NodesAt (Low w) w p ns) :
    Calls Try.prog 54 #[.agg #[.slice p ns.length cap, .int .u32 gen], .int .i64 n] w (Ret w (.bool (thereS ns n))) := by
  refine calls_ofQ (args := [_, _]) [base w (Low w)] Try.func54 (by kernel_rfl) (by kernel_rfl) (Heap.start w) ?_
  intro Q hQ
  refine ev_seq (by kernel_rfl) ?_
  refine ev_region (n := 2) (by kernel_rfl) ?_
  refine rg_box (d := 2) (t := 25) (x := .tmp 0) (g := none) (by kernel_rfl) (by kernel_rfl) rfl ?_
  intro b1
  refine Rg.pure (d := 4) (op := .assign (.const (.bool false))) (g := none) (v := .bool false) (by kernel_rfl) (by kernel_rfl) (pv_assign rfl) ?_
  refine Rg.fin rfl ?_
  refine at_codeS [0, 1] [(1, _), (2, _), (4, _)] [blk b1 (.cells #[.slice p ns.length cap, .int .u32 gen] 25 (0, 0)), base w (Low w)] (.cons rfl (.cons rfl (.cons rfl (.nil _)))) rfl (by decide) (fun _ _ h => h) ?_
  refine ev_seq (by kernel_rfl) ?_
  refine ev_region (n := 19) (by kernel_rfl) ?_
  refine Rg.pure (d := 5) (op := .move (.tmp 1)) (g := none) (v := .int .i64 n) (by kernel_rfl) (by kernel_rfl) (pv_move rfl) ?_
  refine Rg.pure (d := 6) (op := .binOp .gtr 3 (.tmp 5) (.const (.int .i64 0)) 3) (g := none) (v := .bool (decide (0 < n))) (by kernel_rfl) (by kernel_rfl) (pv_gtr rfl rfl) ?_
  refine Rg.pure (d := 7) (op := .move (.tmp 6)) (g := none) (v := .bool (decide (0 < n))) (by kernel_rfl) (by kernel_rfl) (pv_move rfl) ?_
  refine Rg.split 9 [(13, .bool ((decide (0 < n)) && (decide (n < (ns.length : Int))))), (1, .int .i64 n), (2, .pointer (some ⟨b1, 0, none⟩)), (4, .bool false)] [blk b1 (.cells #[.slice p ns.length cap, .int .u32 gen] 25 (0, 0)), base w (Low w)] (s := 7) (g := decide (0 < n)) rfl (by decide) (fun h1 => ?_) (fun h1 => ?_) ?_
  ·
    have h2 := of_decide_eq_true h1
    refine Rg.pure (d := 8) (op := .move (.tmp 1)) (g := some (2, true)) (v := .int .i64 n) (by kernel_rfl) (by kernel_rfl) (pv_move rfl) ?_
    refine Rg.pure (d := 9) (op := .fieldAddr 25 (.tmp 2) 0) (g := some (2, true)) (v := .pointer (some ⟨b1, 0 + 0, none⟩)) (by kernel_rfl) (by kernel_rfl) (pv_fieldAddr rfl (n := 0) (by kernel_rfl)) ?_
    refine Rg.pure (d := 10) (op := .load 22 (.tmp 9)) (g := some (2, true)) (v := .slice p ns.length cap) (by kernel_rfl) (by kernel_rfl) (pv_load_blk 0 rfl rfl (by kernel_rfl) rfl) ?_
    refine Rg.pure (d := 11) (op := .call { callee := .builtin .len, args := #[.tmp 10], argTypes := #[22] }) (g := some (2, true)) (v := .int .i64 (ns.length : Int)) (by kernel_rfl) (by kernel_rfl) (pv_len_slice rfl (by kernel_rfl)) ?_
    refine Rg.pure (d := 12) (op := .binOp .lss 3 (.tmp 8) (.tmp 11) 3) (g := some (2, true)) (v := .bool (decide (n < (ns.length : Int)))) (by kernel_rfl) (by kernel_rfl) (pv_lss rfl rfl) ?_
    refine Rg.pure (d := 13) (op := .pick (.tmp 7) (.tmp 12) (.const (.bool false))) (g := none) (v := .bool (decide (n < (ns.length : Int)))) (by kernel_rfl) (by kernel_rfl) (pv_pick_t rfl rfl) ?_
    refine Rg.fin rfl (At.mid [0, 1] (.cons (and_of_t h1 rfl) (.cons (rfl) (.cons (rfl) (.cons (rfl) (.nil _))))) rfl (by decide))
  ·
    refine Rg.skips 8 (by kernel_rfl) ?_
    refine Rg.pure (d := 13) (op := .pick (.tmp 7) (.tmp 12) (.const (.bool false))) (g := none) (v := .bool false) (by kernel_rfl) (by kernel_rfl) (pv_pick_f rfl rfl) ?_
    refine Rg.fin rfl (At.mid [0, 1] (.cons (and_of_f h1 rfl) (.cons (rfl) (.cons (rfl) (.cons (rfl) (.nil _))))) rfl (by decide))
  refine Rg.pure (d := 14) (op := .move (.tmp 13)) (g := none) (v := .bool ((decide (0 < n)) && (decide (n < (ns.length : Int))))) (by kernel_rfl) (by kernel_rfl) (pv_move rfl) ?_
  refine Rg.split 18 [(22, .bool (((decide (0 < n)) && (decide (n < (ns.length : Int)))) && (!(decide (((nd ns ((n).toNat)).kind) = 0))))), (4, .bool false)] [blk b1 (.cells #[.slice p ns.length cap, .int .u32 gen] 25 (0, 0)), base w (Low w)] (s := 14) (g := (decide (0 < n)) && (decide (n < (ns.length : Int)))) rfl (by decide) (fun h3 => ?_) (fun h3 => ?_) ?_
  ·
    have ⟨h4, h5⟩ := and_t h3
    have h6 := of_decide_eq_true h4
    have h7 := of_decide_eq_true h5
    refine Rg.pure (d := 15) (op := .fieldAddr 25 (.tmp 2) 0) (g := some (9, true)) (v := .pointer (some ⟨b1, 0 + 0, none⟩)) (by kernel_rfl) (by kernel_rfl) (pv_fieldAddr rfl (n := 0) (by kernel_rfl)) ?_
    refine Rg.pure (d := 16) (op := .load 22 (.tmp 15)) (g := some (9, true)) (v := .slice p ns.length cap) (by kernel_rfl) (by kernel_rfl) (pv_load_blk 0 rfl rfl (by kernel_rfl) rfl) ?_
    refine Rg.pure (d := 17) (op := .move (.tmp 1)) (g := some (9, true)) (v := .int .i64 n) (by kernel_rfl) (by kernel_rfl) (pv_move rfl) ?_
    have ⟨q2, o3, hp4⟩ := hT.rows.adr (by omega)
    refine Rg.pure (d := 18) (op := .indexAddr 22 (.tmp 16) (.tmp 17)) (g := some (9, true)) (v := .pointer (some ⟨q2, o3 + (n).toNat * 25, none⟩)) (by kernel_rfl) (by kernel_rfl) (pv_indexAddr' rfl hp4 rfl (e := 44) (sz := 25) (by kernel_rfl) (by omega) (by omega)) ?_
    refine Rg.pure (d := 19) (op := .fieldAddr 44 (.tmp 18) 0) (g := some (9, true)) (v := .pointer (some ⟨q2, o3 + (n).toNat * 25 + 0, none⟩)) (by kernel_rfl) (by kernel_rfl) (pv_fieldAddr rfl (n := 0) (by kernel_rfl)) ?_
    refine Rg.pure (d := 20) (op := .load 33 (.tmp 19)) (g := some (9, true)) (v := .int .u32 ((nd ns ((n).toNat)).kind)) (by kernel_rfl) (by kernel_rfl) (pv_load rfl (by kernel_rfl) (fun w hw => ((hT).keep (hw.at_ 1 rfl) (fun _ h => h)).rows.cell _ _ hp4 _ (by omega) 0 (by decide))) ?_
    refine Rg.pure (d := 21) (op := .binOp .neq 33 (.tmp 20) (.const (.int .u32 0)) 33) (g := some (9, true)) (v := .bool (!(decide (((nd ns ((n).toNat)).kind) = 0)))) (by kernel_rfl) (by kernel_rfl) (pv_neq rfl rfl) ?_
    refine Rg.pure (d := 22) (op := .pick (.tmp 14) (.tmp 21) (.const (.bool false))) (g := none) (v := .bool (!(decide (((nd ns ((n).toNat)).kind) = 0)))) (by kernel_rfl) (by kernel_rfl) (pv_pick_t rfl rfl) ?_
    refine Rg.fin rfl (At.mid [0, 1] (.cons (and_of_t h3 rfl) (.cons (rfl) (.nil _))) rfl (by decide))
  ·
    refine Rg.skips 17 (by kernel_rfl) ?_
    refine Rg.pure (d := 22) (op := .pick (.tmp 14) (.tmp 21) (.const (.bool false))) (g := none) (v := .bool false) (by kernel_rfl) (by kernel_rfl) (pv_pick_f rfl rfl) ?_
    refine Rg.fin rfl (At.mid [0, 1] (.cons (and_of_f h3 rfl) (.cons (rfl) (.nil _))) rfl (by decide))
  refine Rg.pure (d := 4) (op := .assign (.tmp 22)) (g := none) (v := .bool (((decide (0 < n)) && (decide (n < (ns.length : Int)))) && (!(decide (((nd ns ((n).toNat)).kind) = 0))))) (by kernel_rfl) (by kernel_rfl) (pv_assign rfl) ?_
  refine Rg.fin rfl ?_
  refine at_codeS [0, 1] [(4, _)] [blk b1 (.cells #[.slice p ns.length cap, .int .u32 gen] 25 (0, 0)), base w (Low w)] (.cons rfl (.nil _)) rfl (by decide) (fun _ _ h => h) ?_
  refine ev_ret (by kernel_rfl) ?_
  refine At.via (Q := Q) hQ ?_
  refine At.ret1 rfl rfl rfl ?_
  exact fun w hw => ⟨rfl, hw.base_below 1 rfl⟩

theorem thereS_t {ns : List Node} {n : Int} (h : thereS ns n = true) : 0 < n ∧ n < (ns.length : Int) ∧ (nd ns n.toNat).kind ≠ 0 := by
  unfold thereS at h
  simpa [and_assoc] using h

def isS (ns : List Node) (n k : Int) : Bool := thereS ns n && decide ((nd ns n.toNat).kind = k)
set_option maxHeartbeats 8000000 in
theorem is_calls {p : Option Addr} {ns : List Node} {cap : Nat} {gen : Int} {n k : Int} {w : World} (hT : NodesAt (Low w) w p ns) :
    Calls Try.prog 53 #[.agg #[.slice p ns.length cap, .int .u32 gen], .int .i64 n, .int .u32 k] w (Ret w (.bool (isS ns n k))) := by
  refine calls_ofQ (args := [_, _, _]) [base w (Low w)] Try.func53 (by kernel_rfl) (by kernel_rfl) (Heap.start w) ?_
  intro Q hQ
  refine ev_seq (by kernel_rfl) ?_
  refine ev_region (n := 2) (by kernel_rfl) ?_
  refine rg_box (d := 3) (t := 25) (x := .tmp 0) (g := none) (by kernel_rfl) (by kernel_rfl) rfl ?_
  intro b1
  refine Rg.pure (d := 6) (op := .assign (.const (.bool false))) (g := none) (v := .bool false) (by kernel_rfl) (by kernel_rfl) (pv_assign rfl) ?_
  refine Rg.fin rfl ?_
  refine at_codeS [0, 1] [(1, _), (2, _), (3, _), (6, _)] [blk b1 (.cells #[.slice p ns.length cap, .int .u32 gen] 25 (0, 0)), base w (Low w)] (.cons rfl (.cons rfl (.cons rfl (.cons rfl (.nil _))))) rfl (by decide) (fun _ _ h => h) ?_
  refine ev_seq (by kernel_rfl) ?_
  refine ev_region (n := 14) (by kernel_rfl) ?_
  refine Rg.pure (d := 7) (op := .load 25 (.tmp 3)) (g := none) (v := .agg #[.slice p ns.length cap, .int .u32 gen]) (by kernel_rfl) (by kernel_rfl) (pv_load_blk_whole 0 rfl rfl (by kernel_rfl) (by kernel_rfl)) ?_
  refine Rg.pure (d := 8) (op := .move (.tmp 1)) (g := none) (v := .int .i64 n) (by kernel_rfl) (by kernel_rfl) (pv_move rfl) ?_
  refine rg_call (d := some 9) (f := 54) (xs := #[.tmp 7, .tmp 8]) (ts := #[25, 3]) (g := none) (v := .bool (thereS ns n)) (by kernel_rfl) (by kernel_rfl) (by kernel_rfl) rfl (fun w hw => there_calls ((hT).keep (hw.at_ 1 rfl) (fun k hk => hw.lt 1 rfl hk))) ?_
  refine Rg.pure (d := 10) (op := .move (.tmp 9)) (g := none) (v := .bool (thereS ns n)) (by kernel_rfl) (by kernel_rfl) (pv_move rfl) ?_
  refine Rg.split 13 [(19, .bool ((thereS ns n) && (decide (((nd ns ((n).toNat)).kind) = k)))), (6, .bool false)] [blk b1 (.cells #[.slice p ns.length cap, .int .u32 gen] 25 (0, 0)), base w (Low w)] (s := 10) (g := thereS ns n) rfl (by decide) (fun h1 => ?_) (fun h1 => ?_) ?_
  ·
    have ⟨h2, h3, h4⟩ := thereS_t h1
    refine Rg.pure (d := 11) (op := .fieldAddr 25 (.tmp 3) 0) (g := some (3, true)) (v := .pointer (some ⟨b1, 0 + 0, none⟩)) (by kernel_rfl) (by kernel_rfl) (pv_fieldAddr rfl (n := 0) (by kernel_rfl)) ?_
    refine Rg.pure (d := 12) (op := .load 22 (.tmp 11)) (g := some (3, true)) (v := .slice p ns.length cap) (by kernel_rfl) (by kernel_rfl) (pv_load_blk 0 rfl rfl (by kernel_rfl) rfl) ?_
    refine Rg.pure (d := 13) (op := .move (.tmp 1)) (g := some (3, true)) (v := .int .i64 n) (by kernel_rfl) (by kernel_rfl) (pv_move rfl) ?_
    have ⟨q2, o3, hp4⟩ := hT.rows.adr (by omega)
    refine Rg.pure (d := 14) (op := .indexAddr 22 (.tmp 12) (.tmp 13)) (g := some (3, true)) (v := .pointer (some ⟨q2, o3 + (n).toNat * 25, none⟩)) (by kernel_rfl) (by kernel_rfl) (pv_indexAddr' rfl hp4 rfl (e := 44) (sz := 25) (by kernel_rfl) (by omega) (by omega)) ?_
    refine Rg.pure (d := 15) (op := .fieldAddr 44 (.tmp 14) 0) (g := some (3, true)) (v := .pointer (some ⟨q2, o3 + (n).toNat * 25 + 0, none⟩)) (by kernel_rfl) (by kernel_rfl) (pv_fieldAddr rfl (n := 0) (by kernel_rfl)) ?_
    refine Rg.pure (d := 16) (op := .load 33 (.tmp 15)) (g := some (3, true)) (v := .int .u32 ((nd ns ((n).toNat)).kind)) (by kernel_rfl) (by kernel_rfl) (pv_load rfl (by kernel_rfl) (fun w hw => ((hT).keep (hw.at_ 1 rfl) (fun _ h => h)).rows.cell _ _ hp4 _ (by omega) 0 (by decide))) ?_
    refine Rg.pure (d := 17) (op := .move (.tmp 2)) (g := some (3, true)) (v := .int .u32 k) (by kernel_rfl) (by kernel_rfl) (pv_move rfl) ?_
    refine Rg.pure (d := 18) (op := .binOp .eql 33 (.tmp 16) (.tmp 17) 33) (g := some (3, true)) (v := .bool (decide (((nd ns ((n).toNat)).kind) = k))) (by kernel_rfl) (by kernel_rfl) (pv_eql rfl rfl) ?_
    refine Rg.pure (d := 19) (op := .pick (.tmp 10) (.tmp 18) (.const (.bool false))) (g := none) (v := .bool (decide (((nd ns ((n).toNat)).kind) = k))) (by kernel_rfl) (by kernel_rfl) (pv_pick_t rfl rfl) ?_
    refine Rg.fin rfl (At.mid [0, 1] (.cons (and_of_t h1 rfl) (.cons (rfl) (.nil _))) rfl (by decide))
  ·
    refine Rg.skips 12 (by kernel_rfl) ?_
    refine Rg.pure (d := 19) (op := .pick (.tmp 10) (.tmp 18) (.const (.bool false))) (g := none) (v := .bool false) (by kernel_rfl) (by kernel_rfl) (pv_pick_f rfl rfl) ?_
    refine Rg.fin rfl (At.mid [0, 1] (.cons (and_of_f h1 rfl) (.cons (rfl) (.nil _))) rfl (by decide))
  refine Rg.pure (d := 6) (op := .assign (.tmp 19)) (g := none) (v := .bool ((thereS ns n) && (decide (((nd ns ((n).toNat)).kind) = k)))) (by kernel_rfl) (by kernel_rfl) (pv_assign rfl) ?_
  refine Rg.fin rfl ?_
  refine at_codeS [0, 1] [(6, _)] [blk b1 (.cells #[.slice p ns.length cap, .int .u32 gen] 25 (0, 0)), base w (Low w)] (.cons rfl (.nil _)) rfl (by decide) (fun _ _ h => h) ?_
  refine ev_ret (by kernel_rfl) ?_
  refine At.via (Q := Q) hQ ?_
  refine At.ret1 rfl rfl rfl ?_
  exact fun w hw => ⟨rfl, hw.base_below 1 rfl⟩

theorem isS_t {ns : List Node} {n k : Int} (h : isS ns n k = true) : 0 < n ∧ n < (ns.length : Int) ∧ (nd ns n.toNat).kind ≠ 0 ∧ (nd ns n.toNat).kind = k := by
  unfold isS at h
  have ⟨h1, h2⟩ := and_t h
  have ⟨a, b, c⟩ := thereS_t h1
  exact ⟨a, b, c, of_decide_eq_true h2⟩

set_option maxHeartbeats 8000000 in
theorem timesCheck_calls {a b : Int} {w : World} :
    Calls Try.prog 59 #[.agg #[.int .u32 a, .int .u32 b]] w (Ret w (.bool (decide (b < 1000000000)))) := by
  refine calls_ofQ (args := [_]) [base w (Low w)] Try.func59 (by kernel_rfl) (by kernel_rfl) (Heap.start w) ?_
  intro Q hQ
  refine ev_seq (by kernel_rfl) ?_
  refine ev_region (n := 2) (by kernel_rfl) ?_
  refine rg_box (d := 1) (t := 36) (x := .tmp 0) (g := none) (by kernel_rfl) (by kernel_rfl) rfl ?_
  intro b1
  refine Rg.pure (d := 2) (op := .assign (.const (.bool false))) (g := none) (v := .bool false) (by kernel_rfl) (by kernel_rfl) (pv_assign rfl) ?_
  refine Rg.fin rfl ?_
  refine at_codeS [0, 1] [(1, _), (2, _)] [blk b1 (.cells #[.int .u32 a, .int .u32 b] 36 (0, 0)), base w (Low w)] (.cons rfl (.cons rfl (.nil _))) rfl (by decide) (fun _ _ h => h) ?_
  refine ev_seq (by kernel_rfl) ?_
  refine ev_region (n := 4) (by kernel_rfl) ?_
  refine Rg.pure (d := 3) (op := .fieldAddr 36 (.tmp 1) 1) (g := none) (v := .pointer (some ⟨b1, 0 + 1, none⟩)) (by kernel_rfl) (by kernel_rfl) (pv_fieldAddr rfl (n := 1) (by kernel_rfl)) ?_
  refine Rg.pure (d := 4) (op := .load 23 (.tmp 3)) (g := none) (v := .int .u32 b) (by kernel_rfl) (by kernel_rfl) (pv_load_blk 0 rfl rfl (by kernel_rfl) rfl) ?_
  refine Rg.pure (d := 5) (op := .binOp .lss 23 (.tmp 4) (.const (.int .u32 1000000000)) 23) (g := none) (v := .bool (decide (b < 1000000000))) (by kernel_rfl) (by kernel_rfl) (pv_lss rfl rfl) ?_
  refine Rg.pure (d := 2) (op := .assign (.tmp 5)) (g := none) (v := .bool (decide (b < 1000000000))) (by kernel_rfl) (by kernel_rfl) (pv_assign rfl) ?_
  refine Rg.fin rfl ?_
  refine at_codeS [0, 1] [(2, _)] [blk b1 (.cells #[.int .u32 a, .int .u32 b] 36 (0, 0)), base w (Low w)] (.cons rfl (.nil _)) rfl (by decide) (fun _ _ h => h) ?_
  refine ev_ret (by kernel_rfl) ?_
  refine At.via (Q := Q) hQ ?_
  refine At.ret1 rfl rfl rfl ?_
  exact fun w hw => ⟨rfl, hw.base_below 1 rfl⟩

end Go.Proofs.Ytfhhggcdmgjbcaa.Sx
