/-
  A part of the walk of the seat: laws of a small proof system, and contracts of functions, each proved. Conditions: as each theorem says.
-/
import Derived.Test.YtfhhggcdmgjbcaaProg
import Derived.Test.YtfhhggcdmgjbcaaT12
namespace Go.Proofs.Ytfhhggcdmgjbcaa.Sx
open Go Go.RowKit Go.Proofs

set_option maxHeartbeats 8000000 in
theorem entriesSize_calls {p : Option Addr} {es : List Entry} {cap : Nat} {w : World} (hE : EntriesAt (Low w) w p es) (hl : es.length ≤ 140737488355328) (hW : ∀ i, EntryWf (en es i)) :
    Calls Try.prog 153 #[.slice p es.length cap] w (RetN w (fun v : Int => 0 ≤ v ∧ v ≤ 562949953421312) (fun v => .int .i64 v) (fun _ => [])) := by
  refine calls_ofQ (args := [_]) [base w (Low w)] Try.func153 (by kernel_rfl) (by kernel_rfl) (Heap.start w) ?_
  intro Q hQ
  refine ev_seq (by kernel_rfl) ?_
  refine ev_region (n := 1) (by kernel_rfl) ?_
  refine Rg.pure (d := 2) (op := .assign (.const (.int .i64 0))) (g := none) (v := .int .i64 0) (by kernel_rfl) (by kernel_rfl) (pv_assign rfl) ?_
  refine Rg.fin rfl ?_
  refine at_codeS [0] [(0, _), (2, _)] [base w (Low w)] (.cons rfl (.cons rfl (.nil _))) rfl (by decide) (fun _ _ h => h) ?_
  refine ev_seq (by kernel_rfl) ?_
  refine ev_region (n := 3) (by kernel_rfl) ?_
  refine Rg.pure (d := 5) (op := .move (.tmp 0)) (g := none) (v := .slice p es.length cap) (by kernel_rfl) (by kernel_rfl) (pv_move rfl) ?_
  refine Rg.pure (d := 6) (op := .call { callee := .builtin .len, args := #[.tmp 5], argTypes := #[42] }) (g := none) (v := .int .i64 (es.length : Int)) (by kernel_rfl) (by kernel_rfl) (pv_len_slice rfl (by kernel_rfl)) ?_
  refine Rg.pure (d := 3) (op := .assign (.tmp 6)) (g := none) (v := .int .i64 (es.length : Int)) (by kernel_rfl) (by kernel_rfl) (pv_assign rfl) ?_
  refine Rg.fin rfl ?_
  refine at_codeS [0] [(0, _), (2, _), (3, _)] [base w (Low w)] (.cons rfl (.cons rfl (.cons rfl (.nil _)))) rfl (by decide) (fun _ _ h => h) ?_
  refine ev_seq (by kernel_rfl) ?_
  refine ev_seq (by kernel_rfl) ?_
  refine ev_region (n := 1) (by kernel_rfl) ?_
  refine Rg.pure (d := 4) (op := .assign (.const (.int .i64 0))) (g := none) (v := .int .i64 0) (by kernel_rfl) (by kernel_rfl) (pv_assign rfl) ?_
  refine Rg.fin rfl ?_
  refine at_codeS [0] [(0, _), (2, _), (3, _), (4, _)] [base w (Low w)] (.cons rfl (.cons rfl (.cons rfl (.cons rfl (.nil _))))) rfl (by decide) (fun _ _ h => h) ?_
  refine ev_block (id := 0) (by kernel_rfl) ?_
  refine ev_loop (T := Nat × Int) (fun x_ => (fun k v => [(0, .slice p es.length cap), (3, .int .i64 v), (4, .int .i64 (k : Int))]) x_.1 x_.2) (fun x_ => (fun k v => [base w (Low w)]) x_.1 x_.2) (fun x_ => (fun k v => k ≤ es.length ∧ 0 ≤ v ∧ v ≤ 562949953421312) x_.1 x_.2) (fun x_ => (fun k v => es.length - k) x_.1 x_.2) (0, (es.length : Int)) [0] (by kernel_rfl) ⟨Nat.zero_le _, (by show (0 : Int) ≤ (es.length : Int); omega), (by show (es.length : Int) ≤ 562949953421312; omega)⟩ (.cons (rfl) (.cons (rfl) (.cons (rfl) (.nil _)))) rfl (by decide) ?_
  rintro ⟨k, v⟩ ⟨(hk : k ≤ es.length), (hv0 : 0 ≤ v), (hv1 : v ≤ 562949953421312)⟩
  show Ev _ _ [(0, .slice p es.length cap), (3, .int .i64 v), (4, .int .i64 (k : Int))] [base w (Low w)] _
  have hn := (hW k).name
  refine ev_seq (by kernel_rfl) ?_
  refine ev_seq (by kernel_rfl) ?_
  refine ev_region (n := 8) (by kernel_rfl) ?_
  refine Rg.pure (d := 7) (op := .move (.tmp 4)) (g := none) (v := .int .i64 (k : Int)) (by kernel_rfl) (by kernel_rfl) (pv_move rfl) ?_
  refine Rg.pure (d := 8) (op := .move (.tmp 0)) (g := none) (v := .slice p es.length cap) (by kernel_rfl) (by kernel_rfl) (pv_move rfl) ?_
  refine Rg.pure (d := 9) (op := .call { callee := .builtin .len, args := #[.tmp 8], argTypes := #[42] }) (g := none) (v := .int .i64 (es.length : Int)) (by kernel_rfl) (by kernel_rfl) (pv_len_slice rfl (by kernel_rfl)) ?_
  refine Rg.pure (d := 10) (op := .binOp .lss 3 (.tmp 7) (.tmp 9) 3) (g := none) (v := .bool (decide ((k : Int) < (es.length : Int)))) (by kernel_rfl) (by kernel_rfl) (pv_lss rfl rfl) ?_
  refine Rg.pure (d := 11) (op := .move (.tmp 10)) (g := none) (v := .bool (decide ((k : Int) < (es.length : Int)))) (by kernel_rfl) (by kernel_rfl) (pv_move rfl) ?_
  refine Rg.split 8 [(14, .bool ((decide ((k : Int) < (es.length : Int))) && (decide (v ≤ 1048576)))), (0, .slice p es.length cap), (3, .int .i64 v), (4, .int .i64 (k : Int)), (7, .int .i64 (k : Int)), (8, .slice p es.length cap), (9, .int .i64 (es.length : Int)), (10, .bool (decide ((k : Int) < (es.length : Int)))), (11, .bool (decide ((k : Int) < (es.length : Int))))] [base w (Low w)] (s := 11) (g := decide ((k : Int) < (es.length : Int))) rfl (by decide) (fun h1 => ?_) (fun h1 => ?_) ?_
  ·
    have h2 := of_decide_eq_true h1
    refine Rg.pure (d := 12) (op := .move (.tmp 3)) (g := some (4, true)) (v := .int .i64 v) (by kernel_rfl) (by kernel_rfl) (pv_move rfl) ?_
    refine Rg.pure (d := 13) (op := .binOp .leq 3 (.tmp 12) (.const (.int .i64 1048576)) 3) (g := some (4, true)) (v := .bool (decide (v ≤ 1048576))) (by kernel_rfl) (by kernel_rfl) (pv_leq rfl rfl) ?_
    refine Rg.pure (d := 14) (op := .pick (.tmp 11) (.tmp 13) (.const (.bool false))) (g := none) (v := .bool (decide (v ≤ 1048576))) (by kernel_rfl) (by kernel_rfl) (pv_pick_t rfl rfl) ?_
    refine Rg.fin rfl (At.mid [0] (.cons (and_of_t h1 rfl) (.cons (rfl) (.cons (rfl) (.cons (rfl) (.cons (rfl) (.cons (rfl) (.cons (rfl) (.cons (rfl) (.cons ((congrArg (fun z => some (Value.bool z)) (Eq.symm h1))) (.nil _)))))))))) rfl (by decide))
  ·
    refine Rg.skips 7 (by kernel_rfl) ?_
    refine Rg.pure (d := 14) (op := .pick (.tmp 11) (.tmp 13) (.const (.bool false))) (g := none) (v := .bool false) (by kernel_rfl) (by kernel_rfl) (pv_pick_f rfl rfl) ?_
    refine Rg.fin rfl (At.mid [0] (.cons (and_of_f h1 rfl) (.cons (rfl) (.cons (rfl) (.cons (rfl) (.cons (rfl) (.cons (rfl) (.cons (rfl) (.cons (rfl) (.cons ((congrArg (fun z => some (Value.bool z)) (Eq.symm h1))) (.nil _)))))))))) rfl (by decide))
  refine Rg.fin rfl ?_
  refine at_codeS [0] [(0, _), (3, _), (4, _), (7, _), (8, _), (9, _), (10, _), (11, _), (14, _)] [base w (Low w)] (.cons rfl (.cons rfl (.cons rfl (.cons rfl (.cons rfl (.cons rfl (.cons rfl (.cons rfl (.cons rfl (.nil _)))))))))) rfl (by decide) (fun _ _ h => h) ?_
  refine ev_cond (t := 14) (by kernel_rfl) rfl (fun h3 => ?_) (fun h3 => ?_)
  ·
    have ⟨h4, h5⟩ := and_t h3
    have h6 := of_decide_eq_true h4
    have h7 := of_decide_eq_true h5
    refine ev_skip (by kernel_rfl) ?_
    refine at_codeS [0] [(0, _), (3, _), (4, _), (7, _), (8, _), (9, _), (10, _), (11, _), (14, _)] [base w (Low w)] (.cons rfl (.cons rfl (.cons rfl (.cons rfl (.cons rfl (.cons rfl (.cons rfl (.cons rfl (.cons rfl (.nil _)))))))))) rfl (by decide) (fun _ _ h => h) ?_
    refine ev_seq (by kernel_rfl) ?_
    refine ev_block (id := 1) (by kernel_rfl) ?_
    refine ev_region (n := 9) (by kernel_rfl) ?_
    refine Rg.pure (d := 17) (op := .move (.tmp 3)) (g := none) (v := .int .i64 v) (by kernel_rfl) (by kernel_rfl) (pv_move rfl) ?_
    refine Rg.pure (d := 18) (op := .move (.tmp 0)) (g := none) (v := .slice p es.length cap) (by kernel_rfl) (by kernel_rfl) (pv_move rfl) ?_
    refine Rg.pure (d := 19) (op := .move (.tmp 4)) (g := none) (v := .int .i64 (k : Int)) (by kernel_rfl) (by kernel_rfl) (pv_move rfl) ?_
    have ⟨q1, o2, hp3⟩ := hE.adr (by omega)
    refine Rg.pure (d := 20) (op := .indexAddr 42 (.tmp 18) (.tmp 19)) (g := none) (v := .pointer (some ⟨q1, o2 + ((k : Int)).toNat * 3, none⟩)) (by kernel_rfl) (by kernel_rfl) (pv_indexAddr' rfl hp3 rfl (e := 50) (sz := 3) (by kernel_rfl) (by omega) (by omega)) ?_
    refine Rg.pure (d := 21) (op := .fieldAddr 50 (.tmp 20) 0) (g := none) (v := .pointer (some ⟨q1, o2 + ((k : Int)).toNat * 3 + 0, none⟩)) (by kernel_rfl) (by kernel_rfl) (pv_fieldAddr rfl (n := 0) (by kernel_rfl)) ?_
    refine Rg.pure (d := 22) (op := .load 9 (.tmp 21)) (g := none) (v := .string ((en es k).name)) (by kernel_rfl) (by kernel_rfl) (pv_load rfl (by kernel_rfl) (fun w hw => ((hE).keep (hw.at_ 0 rfl) (fun k hk => hw.lt 0 rfl hk)).cell _ _ hp3 _ (by omega) 0 (by decide))) ?_
    refine Rg.pure (d := 23) (op := .call { callee := .builtin .len, args := #[.tmp 22], argTypes := #[9] }) (g := none) (v := .int .i64 (((en es k).name).size : Int)) (by kernel_rfl) (by kernel_rfl) (pv_len_string rfl (by kernel_rfl)) ?_
    refine Rg.pure (d := 24) (op := .binOp .add 3 (.tmp 17) (.tmp 23) 3) (g := none) (v := .int .i64 (v + (((en es k).name).size : Int))) (by kernel_rfl) (by kernel_rfl) (pv_addb rfl rfl (in_i64 (by omega) (by omega))) ?_
    refine Rg.pure (d := 3) (op := .assign (.tmp 24)) (g := none) (v := .int .i64 (v + (((en es k).name).size : Int))) (by kernel_rfl) (by kernel_rfl) (pv_assign rfl) ?_
    refine Rg.fin rfl ?_
    refine at_codeS [0] [(0, _), (3, _), (4, _), (7, _), (8, _), (9, _), (10, _), (11, _), (14, _), (17, _), (18, _), (19, _), (20, _), (21, _), (22, _), (23, _), (24, _)] [base w (Low w)] (.cons rfl (.cons rfl (.cons rfl (.cons rfl (.cons rfl (.cons rfl (.cons rfl (.cons rfl (.cons rfl (.cons rfl (.cons rfl (.cons rfl (.cons rfl (.cons rfl (.cons rfl (.cons rfl (.cons rfl (.nil _)))))))))))))))))) rfl (by decide) (fun _ _ h => h) ?_
    refine ev_region (n := 3) (by kernel_rfl) ?_
    refine Rg.pure (d := 15) (op := .move (.tmp 4)) (g := none) (v := .int .i64 (k : Int)) (by kernel_rfl) (by kernel_rfl) (pv_move rfl) ?_
    refine Rg.pure (d := 16) (op := .binOp .add 3 (.tmp 15) (.const (.int .i64 1)) 3) (g := none) (v := .int .i64 ((k : Int) + 1)) (by kernel_rfl) (by kernel_rfl) (pv_addb rfl rfl (in_i64 (by omega) (by omega))) ?_
    refine Rg.pure (d := 4) (op := .assign (.tmp 16)) (g := none) (v := .int .i64 ((k : Int) + 1)) (by kernel_rfl) (by kernel_rfl) (pv_assign rfl) ?_
    refine Rg.fin rfl ?_
    refine At.round (t := (k, v)) (fun _ _ h => h) (k + 1, v + ((en es k).name.size : Int)) [0] ⟨(by show k + 1 ≤ es.length; omega), (by show 0 ≤ v + _; omega), (by show v + _ ≤ 562949953421312; omega)⟩ (by show es.length - (k + 1) < es.length - k; omega) (.cons (rfl) (.cons (rfl) (.cons (rfl) (.nil _)))) rfl (by decide)
  ·
    refine ev_exit (id := 0) (by kernel_rfl) ?_
    refine at_codeS [0] [(3, _)] [base w (Low w)] (.cons rfl (.nil _)) rfl (by decide) (fun _ _ h => h) ?_
    refine ev_seq (by kernel_rfl) ?_
    refine ev_region (n := 2) (by kernel_rfl) ?_
    refine Rg.pure (d := 25) (op := .move (.tmp 3)) (g := none) (v := .int .i64 v) (by kernel_rfl) (by kernel_rfl) (pv_move rfl) ?_
    refine Rg.pure (d := 2) (op := .assign (.tmp 25)) (g := none) (v := .int .i64 v) (by kernel_rfl) (by kernel_rfl) (pv_assign rfl) ?_
    refine Rg.fin rfl ?_
    refine at_codeS [0] [(2, _)] [base w (Low w)] (.cons rfl (.nil _)) rfl (by decide) (fun _ _ h => h) ?_
    refine ev_ret (by kernel_rfl) ?_
    refine At.via (Q := Q) hQ ?_
    refine At.ret1 rfl rfl rfl ?_
    exact fun w hw => ⟨v, ⟨by omega, by omega⟩, rfl, hw.pick [0] (by decide)⟩

set_option maxHeartbeats 8000000 in
theorem bytesSize_calls {p : Option Addr} {n c : Nat} {w : World} :
    Calls Try.prog 136 #[.slice p n c] w (Ret w (.int .i64 (n : Int))) := by
  refine calls_ofQ (args := [_]) [base w (Low w)] Try.func136 (by kernel_rfl) (by kernel_rfl) (Heap.start w) ?_
  intro Q hQ
  refine ev_seq (by kernel_rfl) ?_
  refine ev_region (n := 1) (by kernel_rfl) ?_
  refine Rg.pure (d := 2) (op := .assign (.const (.int .i64 0))) (g := none) (v := .int .i64 0) (by kernel_rfl) (by kernel_rfl) (pv_assign rfl) ?_
  refine Rg.fin rfl ?_
  refine at_codeS [0] [(0, _), (2, _)] [base w (Low w)] (.cons rfl (.cons rfl (.nil _))) rfl (by decide) (fun _ _ h => h) ?_
  refine ev_seq (by kernel_rfl) ?_
  refine ev_region (n := 3) (by kernel_rfl) ?_
  refine Rg.pure (d := 3) (op := .move (.tmp 0)) (g := none) (v := .slice p n c) (by kernel_rfl) (by kernel_rfl) (pv_move rfl) ?_
  refine Rg.pure (d := 4) (op := .call { callee := .builtin .len, args := #[.tmp 3], argTypes := #[29] }) (g := none) (v := .int .i64 (n : Int)) (by kernel_rfl) (by kernel_rfl) (pv_len_slice rfl (by kernel_rfl)) ?_
  refine Rg.pure (d := 2) (op := .assign (.tmp 4)) (g := none) (v := .int .i64 (n : Int)) (by kernel_rfl) (by kernel_rfl) (pv_assign rfl) ?_
  refine Rg.fin rfl ?_
  refine at_codeS [0] [(2, _)] [base w (Low w)] (.cons rfl (.nil _)) rfl (by decide) (fun _ _ h => h) ?_
  refine ev_ret (by kernel_rfl) ?_
  refine At.via (Q := Q) hQ ?_
  refine At.ret1 rfl rfl rfl ?_
  exact fun w hw => ⟨rfl, hw.base_below 0 rfl⟩

set_option maxHeartbeats 8000000 in
theorem nodeSize_calls {n : Node} {w : World} (hN : NodeAt (Low w) w n) (hW : NodeWf n) :
    Calls Try.prog 121 #[.agg n.cells] w (RetN w (fun v : Int => 0 ≤ v ∧ v ≤ 1125899906842624) (fun v => .int .i64 v) (fun _ => [])) := by
  refine calls_ofQ (args := [_]) [base w (Low w)] Try.func121 (by kernel_rfl) (by kernel_rfl) (Heap.start w) ?_
  intro Q hQ
  have ht := hW.target
  have hd := hW.data
  have hl := hW.list
  refine ev_seq (by kernel_rfl) ?_
  refine ev_region (n := 2) (by kernel_rfl) ?_
  refine rg_box (d := 1) (t := 44) (x := .tmp 0) (g := none) (by kernel_rfl) (by kernel_rfl) rfl ?_
  intro b1
  refine Rg.pure (d := 2) (op := .assign (.const (.int .i64 0))) (g := none) (v := .int .i64 0) (by kernel_rfl) (by kernel_rfl) (pv_assign rfl) ?_
  refine Rg.fin rfl ?_
  refine at_codeS [0, 1] [(1, _), (2, _)] [blk b1 (.cells n.cells 44 (0, 0)), base w (Low w)] (.cons rfl (.cons rfl (.nil _))) rfl (by decide) (fun _ _ h => h) ?_
  refine ev_seq (by kernel_rfl) ?_
  refine ev_region (n := 5) (by kernel_rfl) ?_
  refine Rg.pure (d := 4) (op := .fieldAddr 44 (.tmp 1) 11) (g := none) (v := .pointer (some ⟨b1, 0 + 21, none⟩)) (by kernel_rfl) (by kernel_rfl) (pv_fieldAddr rfl (n := 21) (by kernel_rfl)) ?_
  refine Rg.pure (d := 5) (op := .load 9 (.tmp 4)) (g := none) (v := .string n.target) (by kernel_rfl) (by kernel_rfl) (pv_load_blk 0 rfl rfl (by kernel_rfl) rfl) ?_
  refine Rg.pure (d := 6) (op := .call { callee := .builtin .len, args := #[.tmp 5], argTypes := #[9] }) (g := none) (v := .int .i64 (n.target.size : Int)) (by kernel_rfl) (by kernel_rfl) (pv_len_string rfl (by kernel_rfl)) ?_
  refine Rg.pure (d := 7) (op := .binOp .add 3 (.const (.int .i64 1)) (.tmp 6) 3) (g := none) (v := .int .i64 (1 + (n.target.size : Int))) (by kernel_rfl) (by kernel_rfl) (pv_addb rfl rfl (in_i64 (by omega) (by omega))) ?_
  refine Rg.pure (d := 3) (op := .assign (.tmp 7)) (g := none) (v := .int .i64 (1 + (n.target.size : Int))) (by kernel_rfl) (by kernel_rfl) (pv_assign rfl) ?_
  refine Rg.fin rfl ?_
  refine at_codeS [0, 1] [(1, _), (2, _), (3, _)] [blk b1 (.cells n.cells 44 (0, 0)), base w (Low w)] (.cons rfl (.cons rfl (.cons rfl (.nil _)))) rfl (by decide) (fun _ _ h => h) ?_
  refine ev_seq (by kernel_rfl) ?_
  refine ev_seq (by kernel_rfl) ?_
  refine ev_region (n := 2) (by kernel_rfl) ?_
  refine Rg.pure (d := 8) (op := .move (.tmp 3)) (g := none) (v := .int .i64 (1 + (n.target.size : Int))) (by kernel_rfl) (by kernel_rfl) (pv_move rfl) ?_
  refine Rg.pure (d := 9) (op := .binOp .leq 3 (.tmp 8) (.const (.int .i64 1048576)) 3) (g := none) (v := .bool (decide ((1 + (n.target.size : Int)) ≤ 1048576))) (by kernel_rfl) (by kernel_rfl) (pv_leq rfl rfl) ?_
  refine Rg.fin rfl ?_
  refine at_codeS [0, 1] [(1, _), (2, _), (3, _), (9, _)] [blk b1 (.cells n.cells 44 (0, 0)), base w (Low w)] (.cons rfl (.cons rfl (.cons rfl (.cons rfl (.nil _))))) rfl (by decide) (fun _ _ h => h) ?_
  refine ev_cond (t := 9) (by kernel_rfl) rfl (fun h1 => ?_) (fun h1 => ?_)
  ·
    have h2 := of_decide_eq_true h1
    refine ev_region (n := 6) (by kernel_rfl) ?_
    refine Rg.pure (d := 10) (op := .move (.tmp 3)) (g := none) (v := .int .i64 (1 + (n.target.size : Int))) (by kernel_rfl) (by kernel_rfl) (pv_move rfl) ?_
    refine Rg.pure (d := 11) (op := .fieldAddr 44 (.tmp 1) 9) (g := none) (v := .pointer (some ⟨b1, 0 + 12, none⟩)) (by kernel_rfl) (by kernel_rfl) (pv_fieldAddr rfl (n := 12) (by kernel_rfl)) ?_
    refine Rg.pure (d := 12) (op := .load 29 (.tmp 11)) (g := none) (v := .slice n.dA n.data.length n.dCap) (by kernel_rfl) (by kernel_rfl) (pv_load_blk 0 rfl rfl (by kernel_rfl) rfl) ?_
    refine rg_call (d := some 13) (f := 136) (xs := #[.tmp 12]) (ts := #[29]) (g := none) (v := .int .i64 (n.data.length : Int)) (by kernel_rfl) (by kernel_rfl) (by kernel_rfl) rfl (fun w hw => bytesSize_calls) ?_
    refine Rg.pure (d := 14) (op := .binOp .add 3 (.tmp 10) (.tmp 13) 3) (g := none) (v := .int .i64 ((1 + (n.target.size : Int)) + (n.data.length : Int))) (by kernel_rfl) (by kernel_rfl) (pv_addb rfl rfl (in_i64 (by omega) (by omega))) ?_
    refine Rg.pure (d := 3) (op := .assign (.tmp 14)) (g := none) (v := .int .i64 ((1 + (n.target.size : Int)) + (n.data.length : Int))) (by kernel_rfl) (by kernel_rfl) (pv_assign rfl) ?_
    refine Rg.fin rfl ?_
    refine at_codeS [0, 1] [(1, _), (2, _), (3, _)] [blk b1 (.cells n.cells 44 (0, 0)), base w (Low w)] (.cons rfl (.cons rfl (.cons rfl (.nil _)))) rfl (by decide) (fun _ _ h => h) ?_
    refine ev_seq (by kernel_rfl) ?_
    refine ev_seq (by kernel_rfl) ?_
    refine ev_region (n := 2) (by kernel_rfl) ?_
    refine Rg.pure (d := 15) (op := .move (.tmp 3)) (g := none) (v := .int .i64 ((1 + (n.target.size : Int)) + (n.data.length : Int))) (by kernel_rfl) (by kernel_rfl) (pv_move rfl) ?_
    refine Rg.pure (d := 16) (op := .binOp .leq 3 (.tmp 15) (.const (.int .i64 1048576)) 3) (g := none) (v := .bool (decide (((1 + (n.target.size : Int)) + (n.data.length : Int)) ≤ 1048576))) (by kernel_rfl) (by kernel_rfl) (pv_leq rfl rfl) ?_
    refine Rg.fin rfl ?_
    refine at_codeS [0, 1] [(1, _), (2, _), (3, _), (16, _)] [blk b1 (.cells n.cells 44 (0, 0)), base w (Low w)] (.cons rfl (.cons rfl (.cons rfl (.cons rfl (.nil _))))) rfl (by decide) (fun _ _ h => h) ?_
    refine ev_cond (t := 16) (by kernel_rfl) rfl (fun h3 => ?_) (fun h3 => ?_)
    ·
      have h4 := of_decide_eq_true h3
      refine ev_region (n := 6) (by kernel_rfl) ?_
      refine Rg.pure (d := 17) (op := .move (.tmp 3)) (g := none) (v := .int .i64 ((1 + (n.target.size : Int)) + (n.data.length : Int))) (by kernel_rfl) (by kernel_rfl) (pv_move rfl) ?_
      refine Rg.pure (d := 18) (op := .fieldAddr 44 (.tmp 1) 12) (g := none) (v := .pointer (some ⟨b1, 0 + 22, none⟩)) (by kernel_rfl) (by kernel_rfl) (pv_fieldAddr rfl (n := 22) (by kernel_rfl)) ?_
      refine Rg.pure (d := 19) (op := .load 42 (.tmp 18)) (g := none) (v := .slice n.lA n.list.length n.lCap) (by kernel_rfl) (by kernel_rfl) (pv_load_blk 0 rfl rfl (by kernel_rfl) rfl) ?_
      refine rg_callN (T := Int) (d := some 20) (f := 153) (fo := .func 153) (caps := #[]) (xs := #[.tmp 19]) (ts := #[42]) (g := none) (v := fun v2 => .int .i64 v2) (L := fun v2 => []) (by kernel_rfl) (by kernel_rfl) rfl (by kernel_rfl) rfl (fun w hw => entriesSize_calls (((hN).list).keep (hw.at_ 1 rfl) (fun k hk => hw.lt 1 rfl hk)) hW.list hW.entry) ?_
      rintro v2 ⟨h0_v2, h1_v2⟩
      dsimp only [putE, List.append, HAppend.hAppend, Append.append]
      refine Rg.pure (d := 21) (op := .binOp .add 3 (.tmp 17) (.tmp 20) 3) (g := none) (v := .int .i64 (((1 + (n.target.size : Int)) + (n.data.length : Int)) + v2)) (by kernel_rfl) (by kernel_rfl) (pv_addb rfl rfl (in_i64 (by omega) (by omega))) ?_
      refine Rg.pure (d := 3) (op := .assign (.tmp 21)) (g := none) (v := .int .i64 (((1 + (n.target.size : Int)) + (n.data.length : Int)) + v2)) (by kernel_rfl) (by kernel_rfl) (pv_assign rfl) ?_
      refine Rg.fin rfl ?_
      refine at_codeS [0, 1] [(2, _), (3, _)] [blk b1 (.cells n.cells 44 (0, 0)), base w (Low w)] (.cons rfl (.cons rfl (.nil _))) rfl (by decide) (fun _ _ h => h) ?_
      refine ev_seq (by kernel_rfl) ?_
      refine ev_region (n := 2) (by kernel_rfl) ?_
      refine Rg.pure (d := 22) (op := .move (.tmp 3)) (g := none) (v := .int .i64 (((1 + (n.target.size : Int)) + (n.data.length : Int)) + v2)) (by kernel_rfl) (by kernel_rfl) (pv_move rfl) ?_
      refine Rg.pure (d := 2) (op := .assign (.tmp 22)) (g := none) (v := .int .i64 (((1 + (n.target.size : Int)) + (n.data.length : Int)) + v2)) (by kernel_rfl) (by kernel_rfl) (pv_assign rfl) ?_
      refine Rg.fin rfl ?_
      refine at_codeS [0, 1] [(2, _)] [blk b1 (.cells n.cells 44 (0, 0)), base w (Low w)] (.cons rfl (.nil _)) rfl (by decide) (fun _ _ h => h) ?_
      refine ev_ret (by kernel_rfl) ?_
      refine At.via (Q := Q) hQ ?_
      refine At.ret1 rfl rfl rfl ?_
      exact fun w hw => ⟨((1 + (n.target.size : Int)) + (n.data.length : Int)) + v2, ⟨by omega, by omega⟩, rfl, hw.pick [1] (by decide)⟩
    ·
      have h5 := of_decide_eq_false h3
      refine ev_skip (by kernel_rfl) ?_
      refine at_codeS [0, 1] [(2, _), (3, _)] [blk b1 (.cells n.cells 44 (0, 0)), base w (Low w)] (.cons rfl (.cons rfl (.nil _))) rfl (by decide) (fun _ _ h => h) ?_
      refine ev_seq (by kernel_rfl) ?_
      refine ev_region (n := 2) (by kernel_rfl) ?_
      refine Rg.pure (d := 22) (op := .move (.tmp 3)) (g := none) (v := .int .i64 ((1 + (n.target.size : Int)) + (n.data.length : Int))) (by kernel_rfl) (by kernel_rfl) (pv_move rfl) ?_
      refine Rg.pure (d := 2) (op := .assign (.tmp 22)) (g := none) (v := .int .i64 ((1 + (n.target.size : Int)) + (n.data.length : Int))) (by kernel_rfl) (by kernel_rfl) (pv_assign rfl) ?_
      refine Rg.fin rfl ?_
      refine at_codeS [0, 1] [(2, _)] [blk b1 (.cells n.cells 44 (0, 0)), base w (Low w)] (.cons rfl (.nil _)) rfl (by decide) (fun _ _ h => h) ?_
      refine ev_ret (by kernel_rfl) ?_
      refine At.via (Q := Q) hQ ?_
      refine At.ret1 rfl rfl rfl ?_
      exact fun w hw => ⟨(1 + (n.target.size : Int)) + (n.data.length : Int), ⟨by omega, by omega⟩, rfl, hw.pick [1] (by decide)⟩
  ·
    have h6 := of_decide_eq_false h1
    refine ev_skip (by kernel_rfl) ?_
    refine at_codeS [0, 1] [(1, _), (2, _), (3, _)] [blk b1 (.cells n.cells 44 (0, 0)), base w (Low w)] (.cons rfl (.cons rfl (.cons rfl (.nil _)))) rfl (by decide) (fun _ _ h => h) ?_
    refine ev_seq (by kernel_rfl) ?_
    refine ev_seq (by kernel_rfl) ?_
    refine ev_region (n := 2) (by kernel_rfl) ?_
    refine Rg.pure (d := 15) (op := .move (.tmp 3)) (g := none) (v := .int .i64 (1 + (n.target.size : Int))) (by kernel_rfl) (by kernel_rfl) (pv_move rfl) ?_
    refine Rg.pure (d := 16) (op := .binOp .leq 3 (.tmp 15) (.const (.int .i64 1048576)) 3) (g := none) (v := .bool (decide ((1 + (n.target.size : Int)) ≤ 1048576))) (by kernel_rfl) (by kernel_rfl) (pv_leq rfl rfl) ?_
    refine Rg.fin rfl ?_
    refine at_codeS [0, 1] [(1, _), (2, _), (3, _), (16, _)] [blk b1 (.cells n.cells 44 (0, 0)), base w (Low w)] (.cons rfl (.cons rfl (.cons rfl (.cons rfl (.nil _))))) rfl (by decide) (fun _ _ h => h) ?_
    refine ev_cond (t := 16) (by kernel_rfl) rfl (fun h7 => ?_) (fun h7 => ?_)
    ·
      have h8 := of_decide_eq_true h7
      refine ev_region (n := 6) (by kernel_rfl) ?_
      refine Rg.pure (d := 17) (op := .move (.tmp 3)) (g := none) (v := .int .i64 (1 + (n.target.size : Int))) (by kernel_rfl) (by kernel_rfl) (pv_move rfl) ?_
      refine Rg.pure (d := 18) (op := .fieldAddr 44 (.tmp 1) 12) (g := none) (v := .pointer (some ⟨b1, 0 + 22, none⟩)) (by kernel_rfl) (by kernel_rfl) (pv_fieldAddr rfl (n := 22) (by kernel_rfl)) ?_
      refine Rg.pure (d := 19) (op := .load 42 (.tmp 18)) (g := none) (v := .slice n.lA n.list.length n.lCap) (by kernel_rfl) (by kernel_rfl) (pv_load_blk 0 rfl rfl (by kernel_rfl) rfl) ?_
      refine rg_callN (T := Int) (d := some 20) (f := 153) (fo := .func 153) (caps := #[]) (xs := #[.tmp 19]) (ts := #[42]) (g := none) (v := fun v3 => .int .i64 v3) (L := fun v3 => []) (by kernel_rfl) (by kernel_rfl) rfl (by kernel_rfl) rfl (fun w hw => entriesSize_calls (((hN).list).keep (hw.at_ 1 rfl) (fun k hk => hw.lt 1 rfl hk)) hW.list hW.entry) ?_
      rintro v3 ⟨h0_v3, h1_v3⟩
      dsimp only [putE, List.append, HAppend.hAppend, Append.append]
      refine Rg.pure (d := 21) (op := .binOp .add 3 (.tmp 17) (.tmp 20) 3) (g := none) (v := .int .i64 ((1 + (n.target.size : Int)) + v3)) (by kernel_rfl) (by kernel_rfl) (pv_addb rfl rfl (in_i64 (by omega) (by omega))) ?_
      refine Rg.pure (d := 3) (op := .assign (.tmp 21)) (g := none) (v := .int .i64 ((1 + (n.target.size : Int)) + v3)) (by kernel_rfl) (by kernel_rfl) (pv_assign rfl) ?_
      refine Rg.fin rfl ?_
      refine at_codeS [0, 1] [(2, _), (3, _)] [blk b1 (.cells n.cells 44 (0, 0)), base w (Low w)] (.cons rfl (.cons rfl (.nil _))) rfl (by decide) (fun _ _ h => h) ?_
      refine ev_seq (by kernel_rfl) ?_
      refine ev_region (n := 2) (by kernel_rfl) ?_
      refine Rg.pure (d := 22) (op := .move (.tmp 3)) (g := none) (v := .int .i64 ((1 + (n.target.size : Int)) + v3)) (by kernel_rfl) (by kernel_rfl) (pv_move rfl) ?_
      refine Rg.pure (d := 2) (op := .assign (.tmp 22)) (g := none) (v := .int .i64 ((1 + (n.target.size : Int)) + v3)) (by kernel_rfl) (by kernel_rfl) (pv_assign rfl) ?_
      refine Rg.fin rfl ?_
      refine at_codeS [0, 1] [(2, _)] [blk b1 (.cells n.cells 44 (0, 0)), base w (Low w)] (.cons rfl (.nil _)) rfl (by decide) (fun _ _ h => h) ?_
      refine ev_ret (by kernel_rfl) ?_
      refine At.via (Q := Q) hQ ?_
      refine At.ret1 rfl rfl rfl ?_
      exact fun w hw => ⟨(1 + (n.target.size : Int)) + v3, ⟨by omega, by omega⟩, rfl, hw.pick [1] (by decide)⟩
    ·
      have h9 := of_decide_eq_false h7
      refine ev_skip (by kernel_rfl) ?_
      refine at_codeS [0, 1] [(2, _), (3, _)] [blk b1 (.cells n.cells 44 (0, 0)), base w (Low w)] (.cons rfl (.cons rfl (.nil _))) rfl (by decide) (fun _ _ h => h) ?_
      refine ev_seq (by kernel_rfl) ?_
      refine ev_region (n := 2) (by kernel_rfl) ?_
      refine Rg.pure (d := 22) (op := .move (.tmp 3)) (g := none) (v := .int .i64 (1 + (n.target.size : Int))) (by kernel_rfl) (by kernel_rfl) (pv_move rfl) ?_
      refine Rg.pure (d := 2) (op := .assign (.tmp 22)) (g := none) (v := .int .i64 (1 + (n.target.size : Int))) (by kernel_rfl) (by kernel_rfl) (pv_assign rfl) ?_
      refine Rg.fin rfl ?_
      refine at_codeS [0, 1] [(2, _)] [blk b1 (.cells n.cells 44 (0, 0)), base w (Low w)] (.cons rfl (.nil _)) rfl (by decide) (fun _ _ h => h) ?_
      refine ev_ret (by kernel_rfl) ?_
      refine At.via (Q := Q) hQ ?_
      refine At.ret1 rfl rfl rfl ?_
      exact fun w hw => ⟨1 + (n.target.size : Int), ⟨by omega, by omega⟩, rfl, hw.pick [1] (by decide)⟩

set_option maxHeartbeats 8000000 in
theorem nodesSize_calls {p : Option Addr} {ns : List Node} {cap : Nat} {w : World} (hT : NodesAt (Low w) w p ns) (hW : NodesWf ns) :
    Calls Try.prog 81 #[.slice p ns.length cap] w (RetN w (fun v : Int => 0 ≤ v ∧ v ≤ 2251799813685248) (fun v => .int .i64 v) (fun _ => [])) := by
  refine calls_ofQ (args := [_]) [base w (Low w)] Try.func81 (by kernel_rfl) (by kernel_rfl) (Heap.start w) ?_
  intro Q hQ
  have hlen := hW.len
  refine ev_seq (by kernel_rfl) ?_
  refine ev_region (n := 1) (by kernel_rfl) ?_
  refine Rg.pure (d := 2) (op := .assign (.const (.int .i64 0))) (g := none) (v := .int .i64 0) (by kernel_rfl) (by kernel_rfl) (pv_assign rfl) ?_
  refine Rg.fin rfl ?_
  refine at_codeS [0] [(0, _), (2, _)] [base w (Low w)] (.cons rfl (.cons rfl (.nil _))) rfl (by decide) (fun _ _ h => h) ?_
  refine ev_seq (by kernel_rfl) ?_
  refine ev_region (n := 3) (by kernel_rfl) ?_
  refine Rg.pure (d := 5) (op := .move (.tmp 0)) (g := none) (v := .slice p ns.length cap) (by kernel_rfl) (by kernel_rfl) (pv_move rfl) ?_
  refine Rg.pure (d := 6) (op := .call { callee := .builtin .len, args := #[.tmp 5], argTypes := #[22] }) (g := none) (v := .int .i64 (ns.length : Int)) (by kernel_rfl) (by kernel_rfl) (pv_len_slice rfl (by kernel_rfl)) ?_
  refine Rg.pure (d := 3) (op := .assign (.tmp 6)) (g := none) (v := .int .i64 (ns.length : Int)) (by kernel_rfl) (by kernel_rfl) (pv_assign rfl) ?_
  refine Rg.fin rfl ?_
  refine at_codeS [0] [(0, _), (2, _), (3, _)] [base w (Low w)] (.cons rfl (.cons rfl (.cons rfl (.nil _)))) rfl (by decide) (fun _ _ h => h) ?_
  refine ev_seq (by kernel_rfl) ?_
  refine ev_seq (by kernel_rfl) ?_
  refine ev_region (n := 1) (by kernel_rfl) ?_
  refine Rg.pure (d := 4) (op := .assign (.const (.int .i64 0))) (g := none) (v := .int .i64 0) (by kernel_rfl) (by kernel_rfl) (pv_assign rfl) ?_
  refine Rg.fin rfl ?_
  refine at_codeS [0] [(0, _), (2, _), (3, _), (4, _)] [base w (Low w)] (.cons rfl (.cons rfl (.cons rfl (.cons rfl (.nil _))))) rfl (by decide) (fun _ _ h => h) ?_
  refine ev_block (id := 0) (by kernel_rfl) ?_
  refine ev_loop (T := Nat × Int) (fun x_ => (fun k v => [(0, .slice p ns.length cap), (3, .int .i64 v), (4, .int .i64 (k : Int))]) x_.1 x_.2) (fun x_ => (fun k v => [base w (Low w)]) x_.1 x_.2) (fun x_ => (fun k v => k ≤ ns.length ∧ 0 ≤ v ∧ v ≤ 2251799813685248) x_.1 x_.2) (fun x_ => (fun k v => ns.length - k) x_.1 x_.2) (0, (ns.length : Int)) [0] (by kernel_rfl) ⟨Nat.zero_le _, (by show (0 : Int) ≤ (ns.length : Int); omega), (by show (ns.length : Int) ≤ 2251799813685248; omega)⟩ (.cons (rfl) (.cons (rfl) (.cons (rfl) (.nil _)))) rfl (by decide) ?_
  rintro ⟨k, v⟩ ⟨(hk : k ≤ ns.length), (hv0 : 0 ≤ v), (hv1 : v ≤ 2251799813685248)⟩
  show Ev _ _ [(0, .slice p ns.length cap), (3, .int .i64 v), (4, .int .i64 (k : Int))] [base w (Low w)] _
  refine ev_seq (by kernel_rfl) ?_
  refine ev_seq (by kernel_rfl) ?_
  refine ev_region (n := 8) (by kernel_rfl) ?_
  refine Rg.pure (d := 7) (op := .move (.tmp 4)) (g := none) (v := .int .i64 (k : Int)) (by kernel_rfl) (by kernel_rfl) (pv_move rfl) ?_
  refine Rg.pure (d := 8) (op := .move (.tmp 0)) (g := none) (v := .slice p ns.length cap) (by kernel_rfl) (by kernel_rfl) (pv_move rfl) ?_
  refine Rg.pure (d := 9) (op := .call { callee := .builtin .len, args := #[.tmp 8], argTypes := #[22] }) (g := none) (v := .int .i64 (ns.length : Int)) (by kernel_rfl) (by kernel_rfl) (pv_len_slice rfl (by kernel_rfl)) ?_
  refine Rg.pure (d := 10) (op := .binOp .lss 3 (.tmp 7) (.tmp 9) 3) (g := none) (v := .bool (decide ((k : Int) < (ns.length : Int)))) (by kernel_rfl) (by kernel_rfl) (pv_lss rfl rfl) ?_
  refine Rg.pure (d := 11) (op := .move (.tmp 10)) (g := none) (v := .bool (decide ((k : Int) < (ns.length : Int)))) (by kernel_rfl) (by kernel_rfl) (pv_move rfl) ?_
  refine Rg.split 8 [(14, .bool ((decide ((k : Int) < (ns.length : Int))) && (decide (v ≤ 1048576)))), (0, .slice p ns.length cap), (3, .int .i64 v), (4, .int .i64 (k : Int)), (7, .int .i64 (k : Int)), (8, .slice p ns.length cap), (9, .int .i64 (ns.length : Int)), (10, .bool (decide ((k : Int) < (ns.length : Int)))), (11, .bool (decide ((k : Int) < (ns.length : Int))))] [base w (Low w)] (s := 11) (g := decide ((k : Int) < (ns.length : Int))) rfl (by decide) (fun h1 => ?_) (fun h1 => ?_) ?_
  ·
    have h2 := of_decide_eq_true h1
    refine Rg.pure (d := 12) (op := .move (.tmp 3)) (g := some (4, true)) (v := .int .i64 v) (by kernel_rfl) (by kernel_rfl) (pv_move rfl) ?_
    refine Rg.pure (d := 13) (op := .binOp .leq 3 (.tmp 12) (.const (.int .i64 1048576)) 3) (g := some (4, true)) (v := .bool (decide (v ≤ 1048576))) (by kernel_rfl) (by kernel_rfl) (pv_leq rfl rfl) ?_
    refine Rg.pure (d := 14) (op := .pick (.tmp 11) (.tmp 13) (.const (.bool false))) (g := none) (v := .bool (decide (v ≤ 1048576))) (by kernel_rfl) (by kernel_rfl) (pv_pick_t rfl rfl) ?_
    refine Rg.fin rfl (At.mid [0] (.cons (and_of_t h1 rfl) (.cons (rfl) (.cons (rfl) (.cons (rfl) (.cons (rfl) (.cons (rfl) (.cons (rfl) (.cons (rfl) (.cons ((congrArg (fun z => some (Value.bool z)) (Eq.symm h1))) (.nil _)))))))))) rfl (by decide))
  ·
    refine Rg.skips 7 (by kernel_rfl) ?_
    refine Rg.pure (d := 14) (op := .pick (.tmp 11) (.tmp 13) (.const (.bool false))) (g := none) (v := .bool false) (by kernel_rfl) (by kernel_rfl) (pv_pick_f rfl rfl) ?_
    refine Rg.fin rfl (At.mid [0] (.cons (and_of_f h1 rfl) (.cons (rfl) (.cons (rfl) (.cons (rfl) (.cons (rfl) (.cons (rfl) (.cons (rfl) (.cons (rfl) (.cons ((congrArg (fun z => some (Value.bool z)) (Eq.symm h1))) (.nil _)))))))))) rfl (by decide))
  refine Rg.fin rfl ?_
  refine at_codeS [0] [(0, _), (3, _), (4, _), (7, _), (8, _), (9, _), (10, _), (11, _), (14, _)] [base w (Low w)] (.cons rfl (.cons rfl (.cons rfl (.cons rfl (.cons rfl (.cons rfl (.cons rfl (.cons rfl (.cons rfl (.nil _)))))))))) rfl (by decide) (fun _ _ h => h) ?_
  refine ev_cond (t := 14) (by kernel_rfl) rfl (fun h3 => ?_) (fun h3 => ?_)
  ·
    have ⟨h4, h5⟩ := and_t h3
    have h6 := of_decide_eq_true h4
    have h7 := of_decide_eq_true h5
    refine ev_skip (by kernel_rfl) ?_
    refine at_codeS [0] [(0, _), (3, _), (4, _), (7, _), (8, _), (9, _), (10, _), (11, _), (14, _)] [base w (Low w)] (.cons rfl (.cons rfl (.cons rfl (.cons rfl (.cons rfl (.cons rfl (.cons rfl (.cons rfl (.cons rfl (.nil _)))))))))) rfl (by decide) (fun _ _ h => h) ?_
    refine ev_seq (by kernel_rfl) ?_
    refine ev_block (id := 1) (by kernel_rfl) ?_
    refine ev_region (n := 8) (by kernel_rfl) ?_
    refine Rg.pure (d := 17) (op := .move (.tmp 3)) (g := none) (v := .int .i64 v) (by kernel_rfl) (by kernel_rfl) (pv_move rfl) ?_
    refine Rg.pure (d := 18) (op := .move (.tmp 0)) (g := none) (v := .slice p ns.length cap) (by kernel_rfl) (by kernel_rfl) (pv_move rfl) ?_
    refine Rg.pure (d := 19) (op := .move (.tmp 4)) (g := none) (v := .int .i64 (k : Int)) (by kernel_rfl) (by kernel_rfl) (pv_move rfl) ?_
    have ⟨q1, o2, hp3⟩ := hT.rows.adr (by omega)
    refine Rg.pure (d := 20) (op := .indexAddr 22 (.tmp 18) (.tmp 19)) (g := none) (v := .pointer (some ⟨q1, o2 + ((k : Int)).toNat * 25, none⟩)) (by kernel_rfl) (by kernel_rfl) (pv_indexAddr' rfl hp3 rfl (e := 44) (sz := 25) (by kernel_rfl) (by omega) (by omega)) ?_
    refine Rg.pure (d := 21) (op := .load 44 (.tmp 20)) (g := none) (v := .agg ((nd ns k).cells)) (by kernel_rfl) (by kernel_rfl) (pv_load_node (i := ((k : Int)).toNat) (ns := ns) rfl hp3 (by omega) (by kernel_rfl) (by kernel_rfl) (fun w hw => ((hT).keep (hw.at_ 0 rfl) (fun k hk => hw.lt 0 rfl hk)))) ?_
    refine rg_callN (T := Int) (d := some 22) (f := 121) (fo := .func 121) (caps := #[]) (xs := #[.tmp 21]) (ts := #[44]) (g := none) (v := fun v4 => .int .i64 v4) (L := fun v4 => []) (by kernel_rfl) (by kernel_rfl) rfl (by kernel_rfl) rfl (fun w hw => nodeSize_calls (((hT.node k (by omega))).keep (hw.at_ 0 rfl) (fun k hk => hw.lt 0 rfl hk)) (hW.node _)) ?_
    rintro v4 ⟨h0_v4, h1_v4⟩
    dsimp only [putE, List.append, HAppend.hAppend, Append.append]
    refine Rg.pure (d := 23) (op := .binOp .add 3 (.tmp 17) (.tmp 22) 3) (g := none) (v := .int .i64 (v + v4)) (by kernel_rfl) (by kernel_rfl) (pv_addb rfl rfl (in_i64 (by omega) (by omega))) ?_
    refine Rg.pure (d := 3) (op := .assign (.tmp 23)) (g := none) (v := .int .i64 (v + v4)) (by kernel_rfl) (by kernel_rfl) (pv_assign rfl) ?_
    refine Rg.fin rfl ?_
    refine at_codeS [0] [(0, _), (3, _), (4, _), (7, _), (8, _), (9, _), (10, _), (11, _), (14, _), (17, _), (18, _), (19, _), (20, _), (21, _), (22, _), (23, _)] [base w (Low w)] (.cons rfl (.cons rfl (.cons rfl (.cons rfl (.cons rfl (.cons rfl (.cons rfl (.cons rfl (.cons rfl (.cons rfl (.cons rfl (.cons rfl (.cons rfl (.cons rfl (.cons rfl (.cons rfl (.nil _))))))))))))))))) rfl (by decide) (fun _ _ h => h) ?_
    refine ev_region (n := 3) (by kernel_rfl) ?_
    refine Rg.pure (d := 15) (op := .move (.tmp 4)) (g := none) (v := .int .i64 (k : Int)) (by kernel_rfl) (by kernel_rfl) (pv_move rfl) ?_
    refine Rg.pure (d := 16) (op := .binOp .add 3 (.tmp 15) (.const (.int .i64 1)) 3) (g := none) (v := .int .i64 ((k : Int) + 1)) (by kernel_rfl) (by kernel_rfl) (pv_addb rfl rfl (in_i64 (by omega) (by omega))) ?_
    refine Rg.pure (d := 4) (op := .assign (.tmp 16)) (g := none) (v := .int .i64 ((k : Int) + 1)) (by kernel_rfl) (by kernel_rfl) (pv_assign rfl) ?_
    refine Rg.fin rfl ?_
    refine At.round (t := (k, v)) (fun _ _ h => h) (k + 1, v + v4) [0] ⟨(by show k + 1 ≤ ns.length; omega), (by show 0 ≤ v + _; omega), (by show v + _ ≤ 2251799813685248; omega)⟩ (by show ns.length - (k + 1) < ns.length - k; omega) (.cons (rfl) (.cons (rfl) (.cons (rfl) (.nil _)))) rfl (by decide)
  ·
    refine ev_exit (id := 0) (by kernel_rfl) ?_
    refine at_codeS [0] [(3, _)] [base w (Low w)] (.cons rfl (.nil _)) rfl (by decide) (fun _ _ h => h) ?_
    refine ev_seq (by kernel_rfl) ?_
    refine ev_region (n := 2) (by kernel_rfl) ?_
    refine Rg.pure (d := 24) (op := .move (.tmp 3)) (g := none) (v := .int .i64 v) (by kernel_rfl) (by kernel_rfl) (pv_move rfl) ?_
    refine Rg.pure (d := 2) (op := .assign (.tmp 24)) (g := none) (v := .int .i64 v) (by kernel_rfl) (by kernel_rfl) (pv_assign rfl) ?_
    refine Rg.fin rfl ?_
    refine at_codeS [0] [(2, _)] [base w (Low w)] (.cons rfl (.nil _)) rfl (by decide) (fun _ _ h => h) ?_
    refine ev_ret (by kernel_rfl) ?_
    refine At.via (Q := Q) hQ ?_
    refine At.ret1 rfl rfl rfl ?_
    exact fun w hw => ⟨v, ⟨by omega, by omega⟩, rfl, hw.pick [0] (by decide)⟩

set_option maxHeartbeats 8000000 in
theorem treeSize_calls {p : Option Addr} {ns : List Node} {cap : Nat} {gen : Int} {w : World} (hT : NodesAt (Low w) w p ns) (hW : NodesWf ns) :
    Calls Try.prog 27 #[.agg #[.slice p ns.length cap, .int .u32 gen]] w (RetN w (fun v : Int => 0 ≤ v ∧ v ≤ 4503599627370496) (fun v => .int .i64 v) (fun _ => [])) := by
  refine calls_ofQ (args := [_]) [base w (Low w)] Try.func27 (by kernel_rfl) (by kernel_rfl) (Heap.start w) ?_
  intro Q hQ
  refine ev_seq (by kernel_rfl) ?_
  refine ev_region (n := 2) (by kernel_rfl) ?_
  refine rg_box (d := 1) (t := 25) (x := .tmp 0) (g := none) (by kernel_rfl) (by kernel_rfl) rfl ?_
  intro b1
  refine Rg.pure (d := 2) (op := .assign (.const (.int .i64 0))) (g := none) (v := .int .i64 0) (by kernel_rfl) (by kernel_rfl) (pv_assign rfl) ?_
  refine Rg.fin rfl ?_
  refine at_codeS [0, 1] [(1, _), (2, _)] [blk b1 (.cells #[.slice p ns.length cap, .int .u32 gen] 25 (0, 0)), base w (Low w)] (.cons rfl (.cons rfl (.nil _))) rfl (by decide) (fun _ _ h => h) ?_
  refine ev_seq (by kernel_rfl) ?_
  refine ev_region (n := 1) (by kernel_rfl) ?_
  refine Rg.pure (d := 3) (op := .assign (.const (.int .i64 1))) (g := none) (v := .int .i64 1) (by kernel_rfl) (by kernel_rfl) (pv_assign rfl) ?_
  refine Rg.fin rfl ?_
  refine at_codeS [0, 1] [(1, _), (2, _), (3, _)] [blk b1 (.cells #[.slice p ns.length cap, .int .u32 gen] 25 (0, 0)), base w (Low w)] (.cons rfl (.cons rfl (.cons rfl (.nil _)))) rfl (by decide) (fun _ _ h => h) ?_
  refine ev_seq (by kernel_rfl) ?_
  refine ev_seq (by kernel_rfl) ?_
  refine ev_region (n := 2) (by kernel_rfl) ?_
  refine Rg.pure (d := 4) (op := .move (.tmp 3)) (g := none) (v := .int .i64 1) (by kernel_rfl) (by kernel_rfl) (pv_move rfl) ?_
  refine Rg.pure (d := 5) (op := .binOp .leq 3 (.tmp 4) (.const (.int .i64 1048576)) 3) (g := none) (v := .bool (decide (1 ≤ 1048576))) (by kernel_rfl) (by kernel_rfl) (pv_leq rfl rfl) ?_
  refine Rg.know 5 (b := decide (1 ≤ 1048576)) (c := true) rfl (by decide) ?_
  refine Rg.fin rfl ?_
  refine at_codeS [0, 1] [(1, _), (2, _), (3, _), (5, _)] [blk b1 (.cells #[.slice p ns.length cap, .int .u32 gen] 25 (0, 0)), base w (Low w)] (.cons rfl (.cons rfl (.cons rfl (.cons rfl (.nil _))))) rfl (by decide) (fun _ _ h => h) ?_
  refine ev_cond_t (t := 5) (by kernel_rfl) rfl ?_
  refine ev_region (n := 6) (by kernel_rfl) ?_
  refine Rg.pure (d := 6) (op := .move (.tmp 3)) (g := none) (v := .int .i64 1) (by kernel_rfl) (by kernel_rfl) (pv_move rfl) ?_
  refine Rg.pure (d := 7) (op := .fieldAddr 25 (.tmp 1) 0) (g := none) (v := .pointer (some ⟨b1, 0 + 0, none⟩)) (by kernel_rfl) (by kernel_rfl) (pv_fieldAddr rfl (n := 0) (by kernel_rfl)) ?_
  refine Rg.pure (d := 8) (op := .load 22 (.tmp 7)) (g := none) (v := .slice p ns.length cap) (by kernel_rfl) (by kernel_rfl) (pv_load_blk 0 rfl rfl (by kernel_rfl) rfl) ?_
  refine rg_callN (T := Int) (d := some 9) (f := 81) (fo := .func 81) (caps := #[]) (xs := #[.tmp 8]) (ts := #[22]) (g := none) (v := fun v2 => .int .i64 v2) (L := fun v2 => []) (by kernel_rfl) (by kernel_rfl) rfl (by kernel_rfl) rfl (fun w hw => nodesSize_calls ((hT).keep (hw.at_ 1 rfl) (fun k hk => hw.lt 1 rfl hk)) hW) ?_
  rintro v2 ⟨h0_v2, h1_v2⟩
  dsimp only [putE, List.append, HAppend.hAppend, Append.append]
  refine Rg.pure (d := 10) (op := .binOp .add 3 (.tmp 6) (.tmp 9) 3) (g := none) (v := .int .i64 (1 + v2)) (by kernel_rfl) (by kernel_rfl) (pv_addb rfl rfl (in_i64 (by omega) (by omega))) ?_
  refine Rg.pure (d := 3) (op := .assign (.tmp 10)) (g := none) (v := .int .i64 (1 + v2)) (by kernel_rfl) (by kernel_rfl) (pv_assign rfl) ?_
  refine Rg.fin rfl ?_
  refine at_codeS [0, 1] [(2, _), (3, _)] [blk b1 (.cells #[.slice p ns.length cap, .int .u32 gen] 25 (0, 0)), base w (Low w)] (.cons rfl (.cons rfl (.nil _))) rfl (by decide) (fun _ _ h => h) ?_
  refine ev_seq (by kernel_rfl) ?_
  refine ev_region (n := 2) (by kernel_rfl) ?_
  refine Rg.pure (d := 11) (op := .move (.tmp 3)) (g := none) (v := .int .i64 (1 + v2)) (by kernel_rfl) (by kernel_rfl) (pv_move rfl) ?_
  refine Rg.pure (d := 2) (op := .assign (.tmp 11)) (g := none) (v := .int .i64 (1 + v2)) (by kernel_rfl) (by kernel_rfl) (pv_assign rfl) ?_
  refine Rg.fin rfl ?_
  refine at_codeS [0, 1] [(2, _)] [blk b1 (.cells #[.slice p ns.length cap, .int .u32 gen] 25 (0, 0)), base w (Low w)] (.cons rfl (.nil _)) rfl (by decide) (fun _ _ h => h) ?_
  refine ev_ret (by kernel_rfl) ?_
  refine At.via (Q := Q) hQ ?_
  refine At.ret1 rfl rfl rfl ?_
  exact fun w hw => ⟨1 + v2, ⟨by omega, by omega⟩, rfl, hw.pick [1] (by decide)⟩

set_option maxHeartbeats 8000000 in
theorem great_calls {p : Option Addr} {ns : List Node} {cap : Nat} {gen : Int} {w : World} (hT : NodesAt (Low w) w p ns) (hW : NodesWf ns) :
    Calls Try.prog 14 #[.agg #[.slice p ns.length cap, .int .u32 gen]] w (RetN w (fun _ : Bool => True) (fun b => .bool b) (fun _ => [])) := by
  refine calls_ofQ (args := [_]) [base w (Low w)] Try.func14 (by kernel_rfl) (by kernel_rfl) (Heap.start w) ?_
  intro Q hQ
  have hlen := hW.len
  refine ev_seq (by kernel_rfl) ?_
  refine ev_region (n := 2) (by kernel_rfl) ?_
  refine rg_box (d := 1) (t := 25) (x := .tmp 0) (g := none) (by kernel_rfl) (by kernel_rfl) rfl ?_
  intro b1
  refine Rg.pure (d := 2) (op := .assign (.const (.bool false))) (g := none) (v := .bool false) (by kernel_rfl) (by kernel_rfl) (pv_assign rfl) ?_
  refine Rg.fin rfl ?_
  refine at_codeS [0, 1] [(1, _), (2, _)] [blk b1 (.cells #[.slice p ns.length cap, .int .u32 gen] 25 (0, 0)), base w (Low w)] (.cons rfl (.cons rfl (.nil _))) rfl (by decide) (fun _ _ h => h) ?_
  refine ev_seq (by kernel_rfl) ?_
  refine ev_region (n := 10) (by kernel_rfl) ?_
  refine Rg.pure (d := 3) (op := .load 25 (.tmp 1)) (g := none) (v := .agg #[.slice p ns.length cap, .int .u32 gen]) (by kernel_rfl) (by kernel_rfl) (pv_load_blk_whole 0 rfl rfl (by kernel_rfl) (by kernel_rfl)) ?_
  refine rg_callN (T := Int) (d := some 4) (f := 27) (fo := .func 27) (caps := #[]) (xs := #[.tmp 3]) (ts := #[25]) (g := none) (v := fun v2 => .int .i64 v2) (L := fun v2 => []) (by kernel_rfl) (by kernel_rfl) rfl (by kernel_rfl) rfl (fun w hw => treeSize_calls ((hT).keep (hw.at_ 1 rfl) (fun k hk => hw.lt 1 rfl hk)) hW) ?_
  rintro v2 ⟨h0_v2, h1_v2⟩
  dsimp only [putE, List.append, HAppend.hAppend, Append.append]
  refine Rg.pure (d := 5) (op := .binOp .gtr 3 (.tmp 4) (.const (.int .i64 60000)) 3) (g := none) (v := .bool (decide (60000 < v2))) (by kernel_rfl) (by kernel_rfl) (pv_gtr rfl rfl) ?_
  refine Rg.pure (d := 6) (op := .move (.tmp 5)) (g := none) (v := .bool (decide (60000 < v2))) (by kernel_rfl) (by kernel_rfl) (pv_move rfl) ?_
  refine Rg.split 9 [(11, .bool ((decide (60000 < v2)) || (decide (1300 < (ns.length : Int))))), (2, .bool false)] [blk b1 (.cells #[.slice p ns.length cap, .int .u32 gen] 25 (0, 0)), base w (Low w)] (s := 6) (g := decide (60000 < v2)) rfl (by decide) (fun h1 => ?_) (fun h1 => ?_) ?_
  ·
    refine Rg.skips 8 (by kernel_rfl) ?_
    refine Rg.pure (d := 11) (op := .pick (.tmp 6) (.const (.bool true)) (.tmp 10)) (g := none) (v := .bool true) (by kernel_rfl) (by kernel_rfl) (pv_pick_t rfl rfl) ?_
    refine Rg.fin rfl (At.mid [0, 1] (.cons (or_of_t h1 rfl) (.cons (rfl) (.nil _))) rfl (by decide))
  ·
    have h2 := of_decide_eq_false h1
    refine Rg.pure (d := 7) (op := .fieldAddr 25 (.tmp 1) 0) (g := some (3, false)) (v := .pointer (some ⟨b1, 0 + 0, none⟩)) (by kernel_rfl) (by kernel_rfl) (pv_fieldAddr rfl (n := 0) (by kernel_rfl)) ?_
    refine Rg.pure (d := 8) (op := .load 22 (.tmp 7)) (g := some (3, false)) (v := .slice p ns.length cap) (by kernel_rfl) (by kernel_rfl) (pv_load_blk 0 rfl rfl (by kernel_rfl) rfl) ?_
    refine Rg.pure (d := 9) (op := .call { callee := .builtin .len, args := #[.tmp 8], argTypes := #[22] }) (g := some (3, false)) (v := .int .i64 (ns.length : Int)) (by kernel_rfl) (by kernel_rfl) (pv_len_slice rfl (by kernel_rfl)) ?_
    refine Rg.pure (d := 10) (op := .binOp .gtr 3 (.tmp 9) (.const (.int .i64 1300)) 3) (g := some (3, false)) (v := .bool (decide (1300 < (ns.length : Int)))) (by kernel_rfl) (by kernel_rfl) (pv_gtr rfl rfl) ?_
    refine Rg.pure (d := 11) (op := .pick (.tmp 6) (.const (.bool true)) (.tmp 10)) (g := none) (v := .bool (decide (1300 < (ns.length : Int)))) (by kernel_rfl) (by kernel_rfl) (pv_pick_f rfl rfl) ?_
    refine Rg.fin rfl (At.mid [0, 1] (.cons (or_of_f h1 rfl) (.cons (rfl) (.nil _))) rfl (by decide))
  refine Rg.pure (d := 2) (op := .assign (.tmp 11)) (g := none) (v := .bool ((decide (60000 < v2)) || (decide (1300 < (ns.length : Int))))) (by kernel_rfl) (by kernel_rfl) (pv_assign rfl) ?_
  refine Rg.fin rfl ?_
  refine at_codeS [0, 1] [(2, _)] [blk b1 (.cells #[.slice p ns.length cap, .int .u32 gen] 25 (0, 0)), base w (Low w)] (.cons rfl (.nil _)) rfl (by decide) (fun _ _ h => h) ?_
  refine ev_ret (by kernel_rfl) ?_
  refine At.via (Q := Q) hQ ?_
  refine At.ret1 rfl rfl rfl ?_
  exact fun w hw => ⟨_, trivial, rfl, hw.pick [1] (by decide)⟩

set_option maxHeartbeats 8000000 in
theorem entry1_calls {s name : ByteArray} {m ck : Int} {bx : Nat} {w : World} (hX : w.heap[bx]? = some (.cells #[.string name] 9 (0, 0))) :
    Calls Try.prog 65 #[.agg #[.string s, .int .i64 m, .int .u64 ck], .pointer (some ⟨bx, 0, none⟩)] w (Ret w (.bool (decide (s = name)))) := by
  refine calls_ofQ (args := [_, _]) [base w (Low w)] Try.func65 (by kernel_rfl) (by kernel_rfl) (Heap.start w) ?_
  intro Q hQ
  refine ev_seq (by kernel_rfl) ?_
  refine ev_region (n := 2) (by kernel_rfl) ?_
  refine rg_box (d := 2) (t := 50) (x := .tmp 0) (g := none) (by kernel_rfl) (by kernel_rfl) rfl ?_
  intro b1
  refine Rg.pure (d := 3) (op := .assign (.const (.bool false))) (g := none) (v := .bool false) (by kernel_rfl) (by kernel_rfl) (pv_assign rfl) ?_
  refine Rg.fin rfl ?_
  refine at_codeS [0, 1] [(1, _), (2, _), (3, _)] [blk b1 (.cells #[.string s, .int .i64 m, .int .u64 ck] 50 (0, 0)), base w (Low w)] (.cons rfl (.cons rfl (.cons rfl (.nil _)))) rfl (by decide) (fun _ _ h => h) ?_
  refine ev_seq (by kernel_rfl) ?_
  refine ev_region (n := 5) (by kernel_rfl) ?_
  refine Rg.pure (d := 4) (op := .fieldAddr 50 (.tmp 2) 0) (g := none) (v := .pointer (some ⟨b1, 0 + 0, none⟩)) (by kernel_rfl) (by kernel_rfl) (pv_fieldAddr rfl (n := 0) (by kernel_rfl)) ?_
  refine Rg.pure (d := 5) (op := .load 9 (.tmp 4)) (g := none) (v := .string s) (by kernel_rfl) (by kernel_rfl) (pv_load_blk 0 rfl rfl (by kernel_rfl) rfl) ?_
  refine Rg.pure (d := 6) (op := .load 9 (.tmp 1)) (g := none) (v := .string name) (by kernel_rfl) (by kernel_rfl) (pv_load_base 1 rfl rfl rfl hX (by kernel_rfl) rfl) ?_
  refine Rg.pure (d := 7) (op := .binOp .eql 9 (.tmp 5) (.tmp 6) 9) (g := none) (v := .bool (decide (s = name))) (by kernel_rfl) (by kernel_rfl) (pv_eql_str rfl rfl) ?_
  refine Rg.pure (d := 3) (op := .assign (.tmp 7)) (g := none) (v := .bool (decide (s = name))) (by kernel_rfl) (by kernel_rfl) (pv_assign rfl) ?_
  refine Rg.fin rfl ?_
  refine at_codeS [0, 1] [(3, _)] [blk b1 (.cells #[.string s, .int .i64 m, .int .u64 ck] 50 (0, 0)), base w (Low w)] (.cons rfl (.nil _)) rfl (by decide) (fun _ _ h => h) ?_
  refine ev_ret (by kernel_rfl) ?_
  refine At.via (Q := Q) hQ ?_
  refine At.ret1 rfl rfl rfl ?_
  exact fun w hw => ⟨rfl, hw.base_below 1 rfl⟩

def idxE (es : List Entry) (name : ByteArray) : Int := match (List.range es.length).find? fun i => decide ((en es i).name = name) with | some i => (i : Int) | none => -1
theorem idxE_some {es : List Entry} {name : ByteArray} {k : Nat} (hk : k < es.length) (h : (en es k).name = name) (hno : ∀ i, i < k → (en es i).name ≠ name) : idxE es name = k := by
  have : (List.range es.length).find? (fun i => decide ((en es i).name = name)) = some k := by
    rw [List.find?_range_eq_some]
    exact ⟨by simpa using h, List.mem_range.2 hk, fun j hj => by simpa using hno j hj⟩
  simp [idxE, this]
theorem idxE_none {es : List Entry} {name : ByteArray} (hno : ∀ i, i < es.length → (en es i).name ≠ name) : idxE es name = -1 := by
  have : (List.range es.length).find? (fun i => decide ((en es i).name = name)) = none := by
    rw [List.find?_eq_none]
    intro i hi
    simpa using hno i (List.mem_range.1 hi)
  simp [idxE, this]
theorem idxE_range (es : List Entry) (name : ByteArray) : idxE es name = -1 ∨ (0 ≤ idxE es name ∧ idxE es name < (es.length : Int)) := by
  unfold idxE
  cases h : (List.range es.length).find? (fun i => decide ((en es i).name = name)) with
  | none => exact .inl rfl
  | some i =>
    have := List.mem_of_find?_eq_some h
    simp only [List.mem_range] at this
    right; simp; omega

set_option maxHeartbeats 8000000 in
theorem indexFuncE_calls {p : Option Addr} {es : List Entry} {cap : Nat} {w : World} (hE : EntriesAt (Low w) w p es) (hl : es.length ≤ 140737488355328) {bx : Nat} {name : ByteArray} (hX : w.heap[bx]? = some (.cells #[.string name] 9 (0, 0))) :
    Calls Try.prog 64 #[.slice p es.length cap, .func (.func 65) #[] #[.pointer (some ⟨bx, 0, none⟩)]] w (Ret w (.int .i64 (idxE es name))) := by
  refine calls_ofQ (args := [_, _]) [base w (Low w)] Try.func64 (by kernel_rfl) (by kernel_rfl) (Heap.start w) ?_
  intro Q hQ
  refine ev_seq (by kernel_rfl) ?_
  refine ev_region (n := 1) (by kernel_rfl) ?_
  refine Rg.pure (d := 4) (op := .assign (.const (.int .i64 0))) (g := none) (v := .int .i64 0) (by kernel_rfl) (by kernel_rfl) (pv_assign rfl) ?_
  refine Rg.fin rfl ?_
  refine at_codeS [0] [(0, _), (1, _), (4, _)] [base w (Low w)] (.cons rfl (.cons rfl (.cons rfl (.nil _)))) rfl (by decide) (fun _ _ h => h) ?_
  refine ev_seq (by kernel_rfl) ?_
  refine ev_seq (by kernel_rfl) ?_
  refine ev_region (n := 3) (by kernel_rfl) ?_
  refine Rg.pure (d := 6) (op := .move (.tmp 0)) (g := none) (v := .slice p es.length cap) (by kernel_rfl) (by kernel_rfl) (pv_move rfl) ?_
  refine Rg.pure (d := 7) (op := .call { callee := .builtin .len, args := #[.tmp 6], argTypes := #[42] }) (g := none) (v := .int .i64 (es.length : Int)) (by kernel_rfl) (by kernel_rfl) (pv_len_slice rfl (by kernel_rfl)) ?_
  refine Rg.pure (d := 8) (op := .move (.const (.int .i64 0))) (g := none) (v := .int .i64 0) (by kernel_rfl) (by kernel_rfl) (pv_move rfl) ?_
  refine Rg.fin rfl ?_
  refine at_codeS [0] [(0, _), (1, _), (4, _), (7, _), (8, _)] [base w (Low w)] (.cons rfl (.cons rfl (.cons rfl (.cons rfl (.cons rfl (.nil _)))))) rfl (by decide) (fun _ _ h => h) ?_
  refine ev_block (id := 0) (by kernel_rfl) ?_
  refine ev_loop (T := Nat) (fun k => [(0, .slice p es.length cap), (1, .func (.func 65) #[] #[.pointer (some ⟨bx, 0, none⟩)]), (4, .int .i64 0), (7, .int .i64 (es.length : Int)), (8, .int .i64 (k : Int))]) (fun k => [base w (Low w)]) (fun k => k ≤ es.length ∧ ∀ i_, i_ < k → (en es i_).name ≠ name) (fun k => es.length - k) 0 [0] (by kernel_rfl) ⟨Nat.zero_le _, fun i_ h_ => absurd h_ (Nat.not_lt_zero _)⟩ (.cons (rfl) (.cons (rfl) (.cons (rfl) (.cons (rfl) (.cons (rfl) (.nil _)))))) rfl (by decide) ?_
  rintro k ⟨(hk : k ≤ es.length), (hno : ∀ i_, i_ < k → (en es i_).name ≠ name)⟩
  show Ev _ _ [(0, .slice p es.length cap), (1, .func (.func 65) #[] #[.pointer (some ⟨bx, 0, none⟩)]), (4, .int .i64 0), (7, .int .i64 (es.length : Int)), (8, .int .i64 (k : Int))] [base w (Low w)] _
  refine ev_seq (by kernel_rfl) ?_
  refine ev_region (n := 1) (by kernel_rfl) ?_
  refine Rg.pure (d := 9) (op := .binOp .lss 3 (.tmp 8) (.tmp 7) 3) (g := none) (v := .bool (decide ((k : Int) < (es.length : Int)))) (by kernel_rfl) (by kernel_rfl) (pv_lss rfl rfl) ?_
  refine Rg.fin rfl ?_
  refine at_codeS [0] [(0, _), (1, _), (4, _), (7, _), (8, _), (9, _)] [base w (Low w)] (.cons rfl (.cons rfl (.cons rfl (.cons rfl (.cons rfl (.cons rfl (.nil _))))))) rfl (by decide) (fun _ _ h => h) ?_
  refine ev_seq (by kernel_rfl) ?_
  refine ev_cond (t := 9) (by kernel_rfl) rfl (fun h1 => ?_) (fun h1 => ?_)
  ·
    have h2 := of_decide_eq_true h1
    refine ev_skip (by kernel_rfl) ?_
    refine at_codeS [0] [(0, _), (1, _), (4, _), (7, _), (8, _), (9, _)] [base w (Low w)] (.cons rfl (.cons rfl (.cons rfl (.cons rfl (.cons rfl (.cons rfl (.nil _))))))) rfl (by decide) (fun _ _ h => h) ?_
    refine ev_seq (by kernel_rfl) ?_
    refine ev_block (id := 1) (by kernel_rfl) ?_
    refine ev_seq (by kernel_rfl) ?_
    refine ev_region (n := 2) (by kernel_rfl) ?_
    refine Rg.pure (d := 10) (op := .move (.tmp 8)) (g := none) (v := .int .i64 (k : Int)) (by kernel_rfl) (by kernel_rfl) (pv_move rfl) ?_
    refine Rg.pure (d := 5) (op := .assign (.tmp 10)) (g := none) (v := .int .i64 (k : Int)) (by kernel_rfl) (by kernel_rfl) (pv_assign rfl) ?_
    refine Rg.fin rfl ?_
    refine at_codeS [0] [(0, _), (1, _), (4, _), (5, _), (7, _), (8, _), (9, _), (10, _)] [base w (Low w)] (.cons rfl (.cons rfl (.cons rfl (.cons rfl (.cons rfl (.cons rfl (.cons rfl (.cons rfl (.nil _))))))))) rfl (by decide) (fun _ _ h => h) ?_
    refine ev_seq (by kernel_rfl) ?_
    refine ev_region (n := 6) (by kernel_rfl) ?_
    refine Rg.pure (d := 11) (op := .move (.tmp 1)) (g := none) (v := .func (.func 65) #[] #[.pointer (some ⟨bx, 0, none⟩)]) (by kernel_rfl) (by kernel_rfl) (pv_move rfl) ?_
    refine Rg.pure (d := 12) (op := .move (.tmp 0)) (g := none) (v := .slice p es.length cap) (by kernel_rfl) (by kernel_rfl) (pv_move rfl) ?_
    refine Rg.pure (d := 13) (op := .move (.tmp 5)) (g := none) (v := .int .i64 (k : Int)) (by kernel_rfl) (by kernel_rfl) (pv_move rfl) ?_
    have ⟨q1, o2, hp3⟩ := hE.adr (by omega)
    refine Rg.pure (d := 14) (op := .indexAddr 42 (.tmp 12) (.tmp 13)) (g := none) (v := .pointer (some ⟨q1, o2 + ((k : Int)).toNat * 3, none⟩)) (by kernel_rfl) (by kernel_rfl) (pv_indexAddr' rfl hp3 rfl (e := 50) (sz := 3) (by kernel_rfl) (by omega) (by omega)) ?_
    refine Rg.pure (d := 15) (op := .load 50 (.tmp 14)) (g := none) (v := .agg #[.string ((en es k).name), .int .i64 ((en es k).node), .int .u64 ((en es k).cookie)]) (by kernel_rfl) (by kernel_rfl) (pv_load_entry (i := ((k : Int)).toNat) (es := es) rfl hp3 (by omega) (by kernel_rfl) (by kernel_rfl) (fun w hw => ((hE).keep (hw.at_ 0 rfl) (fun k hk => hw.lt 0 rfl hk)))) ?_
    refine rg_callD (d := some 16) (f := 65) (fo := .tmp 11) (caps := #[.pointer (some ⟨bx, 0, none⟩)]) (xs := #[.tmp 15]) (ts := #[50]) (g := none) (v := .bool (decide ((en es k).name = name))) (by kernel_rfl) (by kernel_rfl) rfl (by kernel_rfl) rfl (fun w hw => entry1_calls (base_heap hw 0 rfl hX)) ?_
    refine Rg.fin rfl ?_
    refine at_codeS [0] [(0, _), (1, _), (4, _), (5, _), (7, _), (8, _), (9, _), (10, _), (11, _), (12, _), (13, _), (14, _), (15, _), (16, _)] [base w (Low w)] (.cons rfl (.cons rfl (.cons rfl (.cons rfl (.cons rfl (.cons rfl (.cons rfl (.cons rfl (.cons rfl (.cons rfl (.cons rfl (.cons rfl (.cons rfl (.cons rfl (.nil _))))))))))))))) rfl (by decide) (fun _ _ h => h) ?_
    refine ev_cond (t := 16) (by kernel_rfl) rfl (fun h3 => ?_) (fun h3 => ?_)
    ·
      have h4 := of_decide_eq_true h3
      refine ev_seq (by kernel_rfl) ?_
      refine ev_region (n := 2) (by kernel_rfl) ?_
      refine Rg.pure (d := 17) (op := .move (.tmp 5)) (g := none) (v := .int .i64 (k : Int)) (by kernel_rfl) (by kernel_rfl) (pv_move rfl) ?_
      refine Rg.pure (d := 4) (op := .assign (.tmp 17)) (g := none) (v := .int .i64 (k : Int)) (by kernel_rfl) (by kernel_rfl) (pv_assign rfl) ?_
      refine Rg.fin rfl ?_
      refine at_codeS [0] [(0, _), (1, _), (4, _), (5, _), (7, _), (8, _), (9, _), (10, _), (11, _), (12, _), (13, _), (14, _), (15, _), (16, _), (17, _)] [base w (Low w)] (.cons rfl (.cons rfl (.cons rfl (.cons rfl (.cons rfl (.cons rfl (.cons rfl (.cons rfl (.cons rfl (.cons rfl (.cons rfl (.cons rfl (.cons rfl (.cons rfl (.cons rfl (.nil _)))))))))))))))) rfl (by decide) (fun _ _ h => h) ?_
      refine ev_ret (by kernel_rfl) ?_
      refine At.via (Q := Q) hQ ?_
      refine At.ret1 rfl rfl rfl ?_
      exact fun w hw => ⟨(by rw [idxE_some (k := k) (by omega) (of_decide_eq_true h3) hno]), hw.base_below 0 rfl⟩
    ·
      have h5 := of_decide_eq_false h3
      refine ev_skip (by kernel_rfl) ?_
      refine at_codeS [0] [(0, _), (1, _), (4, _), (5, _), (7, _), (8, _), (9, _), (10, _), (11, _), (12, _), (13, _), (14, _), (15, _), (16, _)] [base w (Low w)] (.cons rfl (.cons rfl (.cons rfl (.cons rfl (.cons rfl (.cons rfl (.cons rfl (.cons rfl (.cons rfl (.cons rfl (.cons rfl (.cons rfl (.cons rfl (.cons rfl (.nil _))))))))))))))) rfl (by decide) (fun _ _ h => h) ?_
      refine ev_region (n := 2) (by kernel_rfl) ?_
      refine Rg.pure (d := 18) (op := .binOp .add 3 (.tmp 8) (.const (.int .i64 1)) 3) (g := none) (v := .int .i64 ((k : Int) + 1)) (by kernel_rfl) (by kernel_rfl) (pv_addb rfl rfl (in_i64 (by omega) (by omega))) ?_
      refine Rg.pure (d := 8) (op := .move (.tmp 18)) (g := none) (v := .int .i64 ((k : Int) + 1)) (by kernel_rfl) (by kernel_rfl) (pv_move rfl) ?_
      refine Rg.fin rfl ?_
      refine At.round (fun _ _ h => h) (k + 1) [0] ⟨(by omega), (fun i_ h_ => by rcases Nat.lt_succ_iff_lt_or_eq.1 h_ with h1_ | h1_; exact hno i_ h1_; subst h1_; exact of_decide_eq_false h3)⟩ (by show es.length - (k + 1) < es.length - k; omega) (.cons (rfl) (.cons (rfl) (.cons (rfl) (.cons (rfl) (.cons (rfl) (.nil _)))))) rfl (by decide)
  ·
    have h6 := of_decide_eq_false h1
    refine ev_exit (id := 0) (by kernel_rfl) ?_
    refine at_codeS [0] [(4, _)] [base w (Low w)] (.cons rfl (.nil _)) rfl (by decide) (fun _ _ h => h) ?_
    refine ev_seq (by kernel_rfl) ?_
    refine ev_region (n := 1) (by kernel_rfl) ?_
    refine Rg.pure (d := 4) (op := .assign (.const (.int .i64 (-1)))) (g := none) (v := .int .i64 (-1)) (by kernel_rfl) (by kernel_rfl) (pv_assign rfl) ?_
    refine Rg.fin rfl ?_
    refine at_codeS [0] [(4, _)] [base w (Low w)] (.cons rfl (.nil _)) rfl (by decide) (fun _ _ h => h) ?_
    refine ev_ret (by kernel_rfl) ?_
    refine At.via (Q := Q) hQ ?_
    refine At.ret1 rfl rfl rfl ?_
    exact fun w hw => ⟨(by rw [idxE_none (fun i_ h_ => hno i_ (by omega))]), hw.base_below 0 rfl⟩

def dot : ByteArray := ⟨#[46]⟩
def dots : ByteArray := ⟨#[46, 46]⟩
def entryS (ns : List Node) (dir : Int) (name : ByteArray) : Int :=
  cond (!isS ns dir 2) 0 <| cond (decide (name = dot)) dir <| cond (decide (name = dots)) (nd ns dir.toNat).parent <|
  cond (decide (idxE (nd ns dir.toNat).list name < 0)) 0 (en (nd ns dir.toNat).list (idxE (nd ns dir.toNat).list name).toNat).node

set_option maxHeartbeats 8000000 in
theorem Entry_calls {dir : Int} {name : ByteArray} {p : Option Addr} {ns : List Node} {cap : Nat} {gen : Int} {w : World} (hT : NodesAt (Low w) w p ns) (hW : NodesWf ns) :
    Calls Try.prog 21 #[.agg #[.slice p ns.length cap, .int .u32 gen], .int .i64 dir, .string name] w (Ret w (.int .i64 (entryS ns dir name))) := by
  refine calls_ofQ (args := [_, _, _]) [base w (Low w)] Try.func21 (by kernel_rfl) (by kernel_rfl) (Heap.start w) ?_
  intro Q hQ
  have hir := idxE_range (nd ns dir.toNat).list name
  refine ev_seq (by kernel_rfl) ?_
  refine ev_region (n := 3) (by kernel_rfl) ?_
  refine rg_box (d := 3) (t := 25) (x := .tmp 0) (g := none) (by kernel_rfl) (by kernel_rfl) rfl ?_
  intro b1
  refine rg_box (d := 5) (t := 9) (x := .tmp 2) (g := none) (by kernel_rfl) (by kernel_rfl) rfl ?_
  intro b2
  refine Rg.pure (d := 6) (op := .assign (.const (.int .i64 0))) (g := none) (v := .int .i64 0) (by kernel_rfl) (by kernel_rfl) (pv_assign rfl) ?_
  refine Rg.fin rfl ?_
  refine at_codeS [0, 1, 2] [(1, _), (3, _), (5, _), (6, _)] [blk b2 (.cells #[.string name] 9 (0, 0)), blk b1 (.cells #[.slice p ns.length cap, .int .u32 gen] 25 (0, 0)), base w (Low w)] (.cons rfl (.cons rfl (.cons rfl (.cons rfl (.nil _))))) rfl (by decide) (fun _ _ h => h) ?_
  refine ev_seq (by kernel_rfl) ?_
  refine ev_seq (by kernel_rfl) ?_
  refine ev_region (n := 4) (by kernel_rfl) ?_
  refine Rg.pure (d := 9) (op := .load 25 (.tmp 3)) (g := none) (v := .agg #[.slice p ns.length cap, .int .u32 gen]) (by kernel_rfl) (by kernel_rfl) (pv_load_blk_whole 1 rfl rfl (by kernel_rfl) (by kernel_rfl)) ?_
  refine Rg.pure (d := 10) (op := .move (.tmp 1)) (g := none) (v := .int .i64 dir) (by kernel_rfl) (by kernel_rfl) (pv_move rfl) ?_
  refine rg_call (d := some 11) (f := 53) (xs := #[.tmp 9, .tmp 10, .const (.int .u32 2)]) (ts := #[25, 3, 33]) (g := none) (v := .bool (isS ns dir 2)) (by kernel_rfl) (by kernel_rfl) (by kernel_rfl) rfl (fun w hw => is_calls ((hT).keep (hw.at_ 2 rfl) (fun k hk => hw.lt 2 rfl hk))) ?_
  refine Rg.pure (d := 12) (op := .unOp .not 4 (.tmp 11)) (g := none) (v := .bool (!(isS ns dir 2))) (by kernel_rfl) (by kernel_rfl) (pv_not (b := isS ns dir 2) rfl) ?_
  refine Rg.fin rfl ?_
  refine at_codeS [0, 1, 2] [(1, _), (3, _), (5, _), (6, _), (12, _)] [blk b2 (.cells #[.string name] 9 (0, 0)), blk b1 (.cells #[.slice p ns.length cap, .int .u32 gen] 25 (0, 0)), base w (Low w)] (.cons rfl (.cons rfl (.cons rfl (.cons rfl (.cons rfl (.nil _)))))) rfl (by decide) (fun _ _ h => h) ?_
  refine ev_cond (t := 12) (by kernel_rfl) rfl (fun h1 => ?_) (fun h1 => ?_)
  ·
    have h2 := not_t h1
    refine ev_seq (by kernel_rfl) ?_
    refine ev_region (n := 1) (by kernel_rfl) ?_
    refine Rg.pure (d := 6) (op := .assign (.const (.int .i64 0))) (g := none) (v := .int .i64 0) (by kernel_rfl) (by kernel_rfl) (pv_assign rfl) ?_
    refine Rg.fin rfl ?_
    refine at_codeS [0, 1, 2] [(1, _), (3, _), (5, _), (6, _)] [blk b2 (.cells #[.string name] 9 (0, 0)), blk b1 (.cells #[.slice p ns.length cap, .int .u32 gen] 25 (0, 0)), base w (Low w)] (.cons rfl (.cons rfl (.cons rfl (.cons rfl (.nil _))))) rfl (by decide) (fun _ _ h => h) ?_
    refine ev_ret (by kernel_rfl) ?_
    refine At.via (Q := Q) hQ ?_
    refine At.ret1 rfl rfl rfl ?_
    exact fun w hw => ⟨(by unfold entryS dot dots; rw [h1]; rfl), hw.base_below 2 rfl⟩
  ·
    have h3 := not_f h1
    have ⟨h4, h5, h6, h7⟩ := isS_t h3
    refine ev_skip (by kernel_rfl) ?_
    refine at_codeS [0, 1, 2] [(1, _), (3, _), (5, _), (6, _)] [blk b2 (.cells #[.string name] 9 (0, 0)), blk b1 (.cells #[.slice p ns.length cap, .int .u32 gen] 25 (0, 0)), base w (Low w)] (.cons rfl (.cons rfl (.cons rfl (.cons rfl (.nil _))))) rfl (by decide) (fun _ _ h => h) ?_
    refine ev_seq (by kernel_rfl) ?_
    refine ev_region (n := 7) (by kernel_rfl) ?_
    refine Rg.pure (d := 13) (op := .fieldAddr 25 (.tmp 3) 0) (g := none) (v := .pointer (some ⟨b1, 0 + 0, none⟩)) (by kernel_rfl) (by kernel_rfl) (pv_fieldAddr rfl (n := 0) (by kernel_rfl)) ?_
    refine Rg.pure (d := 14) (op := .load 22 (.tmp 13)) (g := none) (v := .slice p ns.length cap) (by kernel_rfl) (by kernel_rfl) (pv_load_blk 1 rfl rfl (by kernel_rfl) rfl) ?_
    refine Rg.pure (d := 15) (op := .move (.tmp 1)) (g := none) (v := .int .i64 dir) (by kernel_rfl) (by kernel_rfl) (pv_move rfl) ?_
    have ⟨q3, o4, hp5⟩ := hT.rows.adr (by omega)
    refine Rg.pure (d := 16) (op := .indexAddr 22 (.tmp 14) (.tmp 15)) (g := none) (v := .pointer (some ⟨q3, o4 + (dir).toNat * 25, none⟩)) (by kernel_rfl) (by kernel_rfl) (pv_indexAddr' rfl hp5 rfl (e := 44) (sz := 25) (by kernel_rfl) (by omega) (by omega)) ?_
    refine Rg.pure (d := 17) (op := .load 44 (.tmp 16)) (g := none) (v := .agg ((nd ns ((dir).toNat)).cells)) (by kernel_rfl) (by kernel_rfl) (pv_load_node (i := (dir).toNat) (ns := ns) rfl hp5 (by omega) (by kernel_rfl) (by kernel_rfl) (fun w hw => ((hT).keep (hw.at_ 2 rfl) (fun k hk => hw.lt 2 rfl hk)))) ?_
    refine rg_alloc (d := 7) (t := 44) (g := none) (v := .agg #[.int .u32 0, .int .u32 0, .int .u32 0, .int .u32 0, .int .u32 0, .int .i64 0, .int .u32 0, .int .u32 0, .int .u32 0, .int .u32 0, .int .u32 0, .int .u32 0, .slice none 0 0, .int .u8 0, .int .u8 0, .int .u8 0, .int .u8 0, .int .u8 0, .int .u8 0, .int .u8 0, .int .u8 0, .string ⟨#[]⟩, .slice none 0 0, .int .i64 0, .int .u64 0]) (by kernel_rfl) (by kernel_rfl) (by kernel_rfl) ?_
    intro b6
    refine rg_store (t := 44) (x := .tmp 7) (y := .tmp 17) (g := none) (cs' := (nd ns ((dir).toNat)).cells) 0 (by kernel_rfl) (by kernel_rfl) rfl rfl rfl (by kernel_rfl) (Nat.le_of_ble_eq_true (by kernel_rfl)) (by kernel_rfl) (by kernel_rfl) ?_
    refine Rg.fin rfl ?_
    refine at_codeS [0, 1, 2, 3] [(1, _), (5, _), (6, _), (7, _)] [blk b6 (.cells ((nd ns ((dir).toNat)).cells) 44 (0, 0)), blk b2 (.cells #[.string name] 9 (0, 0)), blk b1 (.cells #[.slice p ns.length cap, .int .u32 gen] 25 (0, 0)), base w (Low w)] (.cons rfl (.cons rfl (.cons rfl (.cons rfl (.nil _))))) rfl (by decide) (fun _ _ h => h) ?_
    refine ev_seq (by kernel_rfl) ?_
    refine ev_seq (by kernel_rfl) ?_
    refine ev_region (n := 1) (by kernel_rfl) ?_
    refine Rg.pure (d := 18) (op := .load 9 (.tmp 5)) (g := none) (v := .string name) (by kernel_rfl) (by kernel_rfl) (pv_load_blk 1 rfl rfl (by kernel_rfl) rfl) ?_
    refine Rg.fin rfl ?_
    refine at_codeS [0, 1, 2, 3] [(1, _), (5, _), (6, _), (7, _), (18, _)] [blk b6 (.cells ((nd ns ((dir).toNat)).cells) 44 (0, 0)), blk b2 (.cells #[.string name] 9 (0, 0)), blk b1 (.cells #[.slice p ns.length cap, .int .u32 gen] 25 (0, 0)), base w (Low w)] (.cons rfl (.cons rfl (.cons rfl (.cons rfl (.cons rfl (.nil _)))))) rfl (by decide) (fun _ _ h => h) ?_
    refine ev_block (id := 0) (by kernel_rfl) ?_
    refine ev_seq (by kernel_rfl) ?_
    refine ev_region (n := 2) (by kernel_rfl) ?_
    refine Rg.pure (d := 20) (op := .binOp .eql 9 (.tmp 18) (.const (.string ⟨#[46]⟩)) 9) (g := none) (v := .bool (decide (name = ⟨#[46]⟩))) (by kernel_rfl) (by kernel_rfl) (pv_eql_str rfl rfl) ?_
    refine Rg.pure (d := 19) (op := .assign (.tmp 20)) (g := none) (v := .bool (decide (name = ⟨#[46]⟩))) (by kernel_rfl) (by kernel_rfl) (pv_assign rfl) ?_
    refine Rg.fin rfl ?_
    refine at_codeS [0, 1, 2, 3] [(1, _), (5, _), (6, _), (7, _), (18, _), (19, _)] [blk b6 (.cells ((nd ns ((dir).toNat)).cells) 44 (0, 0)), blk b2 (.cells #[.string name] 9 (0, 0)), blk b1 (.cells #[.slice p ns.length cap, .int .u32 gen] 25 (0, 0)), base w (Low w)] (.cons rfl (.cons rfl (.cons rfl (.cons rfl (.cons rfl (.cons rfl (.nil _))))))) rfl (by decide) (fun _ _ h => h) ?_
    refine ev_cond (t := 19) (by kernel_rfl) rfl (fun h8 => ?_) (fun h8 => ?_)
    ·
      have h9 := of_decide_eq_true h8
      refine ev_seq (by kernel_rfl) ?_
      refine ev_region (n := 2) (by kernel_rfl) ?_
      refine Rg.pure (d := 21) (op := .move (.tmp 1)) (g := none) (v := .int .i64 dir) (by kernel_rfl) (by kernel_rfl) (pv_move rfl) ?_
      refine Rg.pure (d := 6) (op := .assign (.tmp 21)) (g := none) (v := .int .i64 dir) (by kernel_rfl) (by kernel_rfl) (pv_assign rfl) ?_
      refine Rg.fin rfl ?_
      refine at_codeS [0, 1, 2, 3] [(5, _), (6, _), (7, _)] [blk b6 (.cells ((nd ns ((dir).toNat)).cells) 44 (0, 0)), blk b2 (.cells #[.string name] 9 (0, 0)), blk b1 (.cells #[.slice p ns.length cap, .int .u32 gen] 25 (0, 0)), base w (Low w)] (.cons rfl (.cons rfl (.cons rfl (.nil _)))) rfl (by decide) (fun _ _ h => h) ?_
      refine ev_ret (by kernel_rfl) ?_
      refine At.via (Q := Q) hQ ?_
      refine At.ret1 rfl rfl rfl ?_
      exact fun w hw => ⟨(by unfold entryS dot dots; rw [h1, h8]; rfl), hw.base_below 3 rfl⟩
    ·
      have h10 := of_decide_eq_false h8
      refine ev_seq (by kernel_rfl) ?_
      refine ev_region (n := 2) (by kernel_rfl) ?_
      refine Rg.pure (d := 23) (op := .binOp .eql 9 (.tmp 18) (.const (.string ⟨#[46, 46]⟩)) 9) (g := none) (v := .bool (decide (name = ⟨#[46, 46]⟩))) (by kernel_rfl) (by kernel_rfl) (pv_eql_str rfl rfl) ?_
      refine Rg.pure (d := 22) (op := .assign (.tmp 23)) (g := none) (v := .bool (decide (name = ⟨#[46, 46]⟩))) (by kernel_rfl) (by kernel_rfl) (pv_assign rfl) ?_
      refine Rg.fin rfl ?_
      refine at_codeS [0, 1, 2, 3] [(5, _), (6, _), (7, _), (22, _)] [blk b6 (.cells ((nd ns ((dir).toNat)).cells) 44 (0, 0)), blk b2 (.cells #[.string name] 9 (0, 0)), blk b1 (.cells #[.slice p ns.length cap, .int .u32 gen] 25 (0, 0)), base w (Low w)] (.cons rfl (.cons rfl (.cons rfl (.cons rfl (.nil _))))) rfl (by decide) (fun _ _ h => h) ?_
      refine ev_cond (t := 22) (by kernel_rfl) rfl (fun h11 => ?_) (fun h11 => ?_)
      ·
        have h12 := of_decide_eq_true h11
        refine ev_seq (by kernel_rfl) ?_
        refine ev_region (n := 3) (by kernel_rfl) ?_
        refine Rg.pure (d := 24) (op := .fieldAddr 44 (.tmp 7) 13) (g := none) (v := .pointer (some ⟨b6, 0 + 23, none⟩)) (by kernel_rfl) (by kernel_rfl) (pv_fieldAddr rfl (n := 23) (by kernel_rfl)) ?_
        refine Rg.pure (d := 25) (op := .load 3 (.tmp 24)) (g := none) (v := .int .i64 ((nd ns ((dir).toNat)).parent)) (by kernel_rfl) (by kernel_rfl) (pv_load_blk 0 rfl rfl (by kernel_rfl) rfl) ?_
        refine Rg.pure (d := 6) (op := .assign (.tmp 25)) (g := none) (v := .int .i64 ((nd ns ((dir).toNat)).parent)) (by kernel_rfl) (by kernel_rfl) (pv_assign rfl) ?_
        refine Rg.fin rfl ?_
        refine at_codeS [0, 1, 2, 3] [(5, _), (6, _), (7, _)] [blk b6 (.cells ((nd ns ((dir).toNat)).cells) 44 (0, 0)), blk b2 (.cells #[.string name] 9 (0, 0)), blk b1 (.cells #[.slice p ns.length cap, .int .u32 gen] 25 (0, 0)), base w (Low w)] (.cons rfl (.cons rfl (.cons rfl (.nil _)))) rfl (by decide) (fun _ _ h => h) ?_
        refine ev_ret (by kernel_rfl) ?_
        refine At.via (Q := Q) hQ ?_
        refine At.ret1 rfl rfl rfl ?_
        exact fun w hw => ⟨(by unfold entryS dot dots; rw [h1, h8, h11]; rfl), hw.base_below 3 rfl⟩
      ·
        have h13 := of_decide_eq_false h11
        refine ev_skip (by kernel_rfl) ?_
        refine at_codeS [0, 1, 2, 3] [(5, _), (6, _), (7, _)] [blk b6 (.cells ((nd ns ((dir).toNat)).cells) 44 (0, 0)), blk b2 (.cells #[.string name] 9 (0, 0)), blk b1 (.cells #[.slice p ns.length cap, .int .u32 gen] 25 (0, 0)), base w (Low w)] (.cons rfl (.cons rfl (.cons rfl (.nil _)))) rfl (by decide) (fun _ _ h => h) ?_
        refine ev_seq (by kernel_rfl) ?_
        refine ev_region (n := 5) (by kernel_rfl) ?_
        refine Rg.pure (d := 26) (op := .fieldAddr 44 (.tmp 7) 12) (g := none) (v := .pointer (some ⟨b6, 0 + 22, none⟩)) (by kernel_rfl) (by kernel_rfl) (pv_fieldAddr rfl (n := 22) (by kernel_rfl)) ?_
        refine Rg.pure (d := 27) (op := .load 42 (.tmp 26)) (g := none) (v := .slice ((nd ns ((dir).toNat)).lA) ((nd ns ((dir).toNat)).list.length) ((nd ns ((dir).toNat)).lCap)) (by kernel_rfl) (by kernel_rfl) (pv_load_blk 0 rfl rfl (by kernel_rfl) rfl) ?_
        refine Rg.pure (d := 28) (op := .makeFunc (.func 65) #[] #[.tmp 5]) (g := none) (v := .func (.func 65) #[] #[.pointer (some ⟨b2, 0, none⟩)]) (by kernel_rfl) (by kernel_rfl) (pv_makeFunc (xs := [.tmp 5]) rfl) ?_
        refine rg_call (d := some 29) (f := 64) (xs := #[.tmp 27, .tmp 28]) (ts := #[42, 141]) (g := none) (v := .int .i64 (idxE ((nd ns ((dir).toNat)).list) name)) (by kernel_rfl) (by kernel_rfl) (by kernel_rfl) rfl (fun w hw => indexFuncE_calls ((((hT.node ((dir).toNat) (by omega))).list).keep (hw.at_ 3 rfl) (fun k hk => hw.lt 3 rfl hk)) ((hW.node _).list) (hw.blk_at 1 rfl)) ?_
        refine Rg.pure (d := 8) (op := .assign (.tmp 29)) (g := none) (v := .int .i64 (idxE ((nd ns ((dir).toNat)).list) name)) (by kernel_rfl) (by kernel_rfl) (pv_assign rfl) ?_
        refine Rg.fin rfl ?_
        refine at_codeS [0, 1, 2, 3] [(6, _), (7, _), (8, _)] [blk b6 (.cells ((nd ns ((dir).toNat)).cells) 44 (0, 0)), blk b2 (.cells #[.string name] 9 (0, 0)), blk b1 (.cells #[.slice p ns.length cap, .int .u32 gen] 25 (0, 0)), base w (Low w)] (.cons rfl (.cons rfl (.cons rfl (.nil _)))) rfl (by decide) (fun _ _ h => h) ?_
        refine ev_seq (by kernel_rfl) ?_
        refine ev_seq (by kernel_rfl) ?_
        refine ev_region (n := 2) (by kernel_rfl) ?_
        refine Rg.pure (d := 30) (op := .move (.tmp 8)) (g := none) (v := .int .i64 (idxE ((nd ns ((dir).toNat)).list) name)) (by kernel_rfl) (by kernel_rfl) (pv_move rfl) ?_
        refine Rg.pure (d := 31) (op := .binOp .lss 3 (.tmp 30) (.const (.int .i64 0)) 3) (g := none) (v := .bool (decide ((idxE ((nd ns ((dir).toNat)).list) name) < 0))) (by kernel_rfl) (by kernel_rfl) (pv_lss rfl rfl) ?_
        refine Rg.fin rfl ?_
        refine at_codeS [0, 1, 2, 3] [(6, _), (7, _), (8, _), (31, _)] [blk b6 (.cells ((nd ns ((dir).toNat)).cells) 44 (0, 0)), blk b2 (.cells #[.string name] 9 (0, 0)), blk b1 (.cells #[.slice p ns.length cap, .int .u32 gen] 25 (0, 0)), base w (Low w)] (.cons rfl (.cons rfl (.cons rfl (.cons rfl (.nil _))))) rfl (by decide) (fun _ _ h => h) ?_
        refine ev_cond (t := 31) (by kernel_rfl) rfl (fun h14 => ?_) (fun h14 => ?_)
        ·
          have h15 := of_decide_eq_true h14
          refine ev_seq (by kernel_rfl) ?_
          refine ev_region (n := 1) (by kernel_rfl) ?_
          refine Rg.pure (d := 6) (op := .assign (.const (.int .i64 0))) (g := none) (v := .int .i64 0) (by kernel_rfl) (by kernel_rfl) (pv_assign rfl) ?_
          refine Rg.fin rfl ?_
          refine at_codeS [0, 1, 2, 3] [(6, _), (7, _), (8, _)] [blk b6 (.cells ((nd ns ((dir).toNat)).cells) 44 (0, 0)), blk b2 (.cells #[.string name] 9 (0, 0)), blk b1 (.cells #[.slice p ns.length cap, .int .u32 gen] 25 (0, 0)), base w (Low w)] (.cons rfl (.cons rfl (.cons rfl (.nil _)))) rfl (by decide) (fun _ _ h => h) ?_
          refine ev_ret (by kernel_rfl) ?_
          refine At.via (Q := Q) hQ ?_
          refine At.ret1 rfl rfl rfl ?_
          exact fun w hw => ⟨(by unfold entryS dot dots; rw [h1, h8, h11, h14]; rfl), hw.base_below 3 rfl⟩
        ·
          have h16 := of_decide_eq_false h14
          refine ev_skip (by kernel_rfl) ?_
          refine at_codeS [0, 1, 2, 3] [(6, _), (7, _), (8, _)] [blk b6 (.cells ((nd ns ((dir).toNat)).cells) 44 (0, 0)), blk b2 (.cells #[.string name] 9 (0, 0)), blk b1 (.cells #[.slice p ns.length cap, .int .u32 gen] 25 (0, 0)), base w (Low w)] (.cons rfl (.cons rfl (.cons rfl (.nil _)))) rfl (by decide) (fun _ _ h => h) ?_
          refine ev_seq (by kernel_rfl) ?_
          refine ev_region (n := 7) (by kernel_rfl) ?_
          refine Rg.pure (d := 32) (op := .fieldAddr 44 (.tmp 7) 12) (g := none) (v := .pointer (some ⟨b6, 0 + 22, none⟩)) (by kernel_rfl) (by kernel_rfl) (pv_fieldAddr rfl (n := 22) (by kernel_rfl)) ?_
          refine Rg.pure (d := 33) (op := .load 42 (.tmp 32)) (g := none) (v := .slice ((nd ns ((dir).toNat)).lA) ((nd ns ((dir).toNat)).list.length) ((nd ns ((dir).toNat)).lCap)) (by kernel_rfl) (by kernel_rfl) (pv_load_blk 0 rfl rfl (by kernel_rfl) rfl) ?_
          refine Rg.pure (d := 34) (op := .move (.tmp 8)) (g := none) (v := .int .i64 (idxE ((nd ns ((dir).toNat)).list) name)) (by kernel_rfl) (by kernel_rfl) (pv_move rfl) ?_
          have ⟨q7, o8, hp9⟩ := ((hT.node ((dir).toNat) (by omega))).list.adr (by omega)
          refine Rg.pure (d := 35) (op := .indexAddr 42 (.tmp 33) (.tmp 34)) (g := none) (v := .pointer (some ⟨q7, o8 + (idxE ((nd ns ((dir).toNat)).list) name).toNat * 3, none⟩)) (by kernel_rfl) (by kernel_rfl) (pv_indexAddr' rfl hp9 rfl (e := 50) (sz := 3) (by kernel_rfl) (by omega) (by omega)) ?_
          refine Rg.pure (d := 36) (op := .fieldAddr 50 (.tmp 35) 1) (g := none) (v := .pointer (some ⟨q7, o8 + (idxE ((nd ns ((dir).toNat)).list) name).toNat * 3 + 1, none⟩)) (by kernel_rfl) (by kernel_rfl) (pv_fieldAddr rfl (n := 1) (by kernel_rfl)) ?_
          refine Rg.pure (d := 37) (op := .load 3 (.tmp 36)) (g := none) (v := .int .i64 ((en ((nd ns ((dir).toNat)).list) ((idxE ((nd ns ((dir).toNat)).list) name).toNat)).node)) (by kernel_rfl) (by kernel_rfl) (pv_load rfl (by kernel_rfl) (fun w hw => ((((hT.node ((dir).toNat) (by omega))).list).keep (hw.at_ 3 rfl) (fun k hk => hw.lt 3 rfl hk)).cell _ _ hp9 _ (by omega) 1 (by decide))) ?_
          refine Rg.pure (d := 6) (op := .assign (.tmp 37)) (g := none) (v := .int .i64 ((en ((nd ns ((dir).toNat)).list) ((idxE ((nd ns ((dir).toNat)).list) name).toNat)).node)) (by kernel_rfl) (by kernel_rfl) (pv_assign rfl) ?_
          refine Rg.fin rfl ?_
          refine at_codeS [0, 1, 2, 3] [(6, _)] [blk b6 (.cells ((nd ns ((dir).toNat)).cells) 44 (0, 0)), blk b2 (.cells #[.string name] 9 (0, 0)), blk b1 (.cells #[.slice p ns.length cap, .int .u32 gen] 25 (0, 0)), base w (Low w)] (.cons rfl (.nil _)) rfl (by decide) (fun _ _ h => h) ?_
          refine ev_ret (by kernel_rfl) ?_
          refine At.via (Q := Q) hQ ?_
          refine At.ret1 rfl rfl rfl ?_
          exact fun w hw => ⟨(by unfold entryS dot dots; rw [h1, h8, h11, h14]; rfl), hw.base_below 3 rfl⟩

end Go.Proofs.Ytfhhggcdmgjbcaa.Sx
