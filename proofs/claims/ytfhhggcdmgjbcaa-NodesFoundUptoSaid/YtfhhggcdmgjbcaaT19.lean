/-
  A part of the walk of the seat: laws of a small proof system, and contracts of functions, each proved. Conditions: as each theorem says.
-/
import Derived.Test.YtfhhggcdmgjbcaaProg
import Derived.Test.YtfhhggcdmgjbcaaT18
namespace Go.Proofs.Ytfhhggcdmgjbcaa.Sx
open Go Go.RowKit Go.Proofs

def root (s n mode : Int) : Node := { Node.zero with kind := 2, mode := mode, links := 2, parent := 1, next := 3, rs := s, rn := n, ws := s, wn := n, ts := s, tn := n }
def rootC (s n mode : Int) : Array Value := (Node.zero.cells.toList ++ (root s n mode).cells.toList).toArray
def rootN (s n mode : Int) : List Node := [Node.zero, root s n mode]
theorem rootN_wf {s n mode : Int} : NodesWf (rootN s n mode) := by
  have hz : NodeWf Node.zero := by
    refine ⟨?_, ?_, ?_, ?_, ?_, ?_, ?_, ?_, ?_, ?_, ?_, ?_, ?_, fun i => ?_⟩ <;> try decide
    have : en Node.zero.list i = Entry.zero := by simp [en, Node.zero]
    rw [this]; exact ⟨by decide, by decide, by decide, by decide, by decide⟩
  have hr : NodeWf (root s n mode) := by
    refine ⟨?_, ?_, ?_, ?_, ?_, ?_, ?_, ?_, ?_, ?_, ?_, ?_, ?_, fun i => ?_⟩ <;> try (simp only [root]; decide)
    have : en (root s n mode).list i = Entry.zero := by simp [en, root, Node.zero]
    rw [this]; exact ⟨by decide, by decide, by decide, by decide, by decide⟩
  refine ⟨by show 2 ≤ 140737488355328; omega, fun i => ?_⟩
  rcases i with _ | _ | i
  · exact hz
  · exact hr
  · have : nd (rootN s n mode) (i + 2) = Node.zero := by simp [nd, rootN]
    rw [this]; exact hz
theorem rootN_here {w0 w : World} {S : List Item} {s n mode : Int} (hw : Heap w0 S w) (j : Nat) {b : Nat} {T : Nat} {z : Nat × Nat} (hj : S[j]? = some (blk b (.cells (rootC s n mode) T z))) : NodesAt (Low w) w (some ⟨b, 0, none⟩) (rootN s n mode) := by
  refine blk_nodes hw j (rootN s n mode) hj (fun i hi q hq => ?_) (fun i hi => ?_)
  · have hi' : i < 2 := hi
    obtain rfl | rfl : i = 0 ∨ i = 1 := by omega
    · show (rootC s n mode)[0 * 25 + q]? = Node.zero.cells[q]?
      simp only [rootC, List.getElem?_toArray]
      rw [List.getElem?_append_left (by show 0 * 25 + q < 25; omega), Nat.zero_mul, Nat.zero_add]; simp
    · show (rootC s n mode)[1 * 25 + q]? = (root s n mode).cells[q]?
      simp only [rootC, List.getElem?_toArray]
      rw [List.getElem?_append_right (by show 25 ≤ 1 * 25 + q; omega), show 1 * 25 + q - Node.zero.cells.toList.length = q by show 1 * 25 + q - 25 = q; omega]; simp
  · have hi' : i < 2 := hi
    obtain rfl | rfl : i = 0 ∨ i = 1 := by omega
    · exact ⟨rfl, rfl⟩
    · exact ⟨rfl, rfl⟩

set_option maxHeartbeats 8000000 in
theorem New_calls {s n : Int} {w : World} (hn : n < 1000000000) :
    Calls Try.prog 52 #[.agg #[.int .u32 s, .int .u32 n]] w (RetN w (fun _ : Nat => True) (fun b => .agg #[.slice (some ⟨b, 0, none⟩) 2 2, .int .u32 1]) (fun b => [blk b (.cells (rootC s n 493) 44 (0, 0))])) := by
  refine calls_ofQ (args := [_]) [base w (Low w)] Try.func52 (by kernel_rfl) (by kernel_rfl) (Heap.start w) ?_
  intro Q hQ
  refine ev_seq (by kernel_rfl) ?_
  refine ev_region (n := 2) (by kernel_rfl) ?_
  refine rg_box (d := 1) (t := 36) (x := .tmp 0) (g := none) (by kernel_rfl) (by kernel_rfl) rfl ?_
  intro b1
  refine rg_alloc (d := 2) (t := 25) (g := none) (v := .agg #[.slice none 0 0, .int .u32 0]) (by kernel_rfl) (by kernel_rfl) (by kernel_rfl) ?_
  intro b2
  refine Rg.fin rfl ?_
  refine at_codeS [0, 1, 2] [(1, _), (2, _)] [blk b2 (.cells #[.slice none 0 0, .int .u32 0] 25 (0, 0)), blk b1 (.cells #[.int .u32 s, .int .u32 n] 36 (0, 0)), base w (Low w)] (.cons rfl (.cons rfl (.nil _))) rfl (by decide) (fun _ _ h => h) ?_
  refine ev_seq (by kernel_rfl) ?_
  refine ev_seq (by kernel_rfl) ?_
  refine ev_region (n := 3) (by kernel_rfl) ?_
  refine Rg.pure (d := 3) (op := .load 36 (.tmp 1)) (g := none) (v := .agg #[.int .u32 s, .int .u32 n]) (by kernel_rfl) (by kernel_rfl) (pv_load_blk_whole 1 rfl rfl (by kernel_rfl) (by kernel_rfl)) ?_
  refine rg_call (d := some 4) (f := 59) (xs := #[.tmp 3]) (ts := #[36]) (g := none) (v := .bool true) (by kernel_rfl) (by kernel_rfl) (by kernel_rfl) rfl (fun w hw => (by have h := timesCheck_calls (a := s) (b := n) (w := w); rw [decide_eq_true hn] at h; exact h)) ?_
  refine Rg.pure (d := 5) (op := .unOp .not 4 (.tmp 4)) (g := none) (v := .bool false) (by kernel_rfl) (by kernel_rfl) (pv_not (b := true) rfl) ?_
  refine Rg.fin rfl ?_
  refine at_codeS [0, 1, 2] [(1, _), (2, _), (5, _)] [blk b2 (.cells #[.slice none 0 0, .int .u32 0] 25 (0, 0)), blk b1 (.cells #[.int .u32 s, .int .u32 n] 36 (0, 0)), base w (Low w)] (.cons rfl (.cons rfl (.cons rfl (.nil _)))) rfl (by decide) (fun _ _ h => h) ?_
  refine ev_cond_f (t := 5) (by kernel_rfl) rfl ?_
  refine ev_skip (by kernel_rfl) ?_
  refine at_codeS [0, 1, 2] [(1, _), (2, _)] [blk b2 (.cells #[.slice none 0 0, .int .u32 0] 25 (0, 0)), blk b1 (.cells #[.int .u32 s, .int .u32 n] 36 (0, 0)), base w (Low w)] (.cons rfl (.cons rfl (.nil _))) rfl (by decide) (fun _ _ h => h) ?_
  refine ev_seq (by kernel_rfl) ?_
  refine ev_region (n := 8) (by kernel_rfl) ?_
  refine Rg.pure (d := 7) (op := .build 44 #[]) (g := none) (v := .agg #[.int .u32 0, .int .u32 0, .int .u32 0, .int .u32 0, .int .u32 0, .int .i64 0, .int .u32 0, .int .u32 0, .int .u32 0, .int .u32 0, .int .u32 0, .int .u32 0, .slice none 0 0, .int .u8 0, .int .u8 0, .int .u8 0, .int .u8 0, .int .u8 0, .int .u8 0, .int .u8 0, .int .u8 0, .string ⟨#[]⟩, .slice none 0 0, .int .i64 0, .int .u64 0]) (by kernel_rfl) (by kernel_rfl) (pv_build (parts := []) (vs := []) (fs := [(0, 1), (1, 1), (2, 1), (3, 1), (4, 1), (5, 1), (6, 2), (8, 2), (10, 2), (12, 1), (13, 8), (21, 1), (22, 1), (23, 1), (24, 1)]) (zv := .agg #[.int .u32 0, .int .u32 0, .int .u32 0, .int .u32 0, .int .u32 0, .int .i64 0, .int .u32 0, .int .u32 0, .int .u32 0, .int .u32 0, .int .u32 0, .int .u32 0, .slice none 0 0, .int .u8 0, .int .u8 0, .int .u8 0, .int .u8 0, .int .u8 0, .int .u8 0, .int .u8 0, .int .u8 0, .string ⟨#[]⟩, .slice none 0 0, .int .i64 0, .int .u64 0]) (cs := #[.int .u32 0, .int .u32 0, .int .u32 0, .int .u32 0, .int .u32 0, .int .i64 0, .int .u32 0, .int .u32 0, .int .u32 0, .int .u32 0, .int .u32 0, .int .u32 0, .slice none 0 0, .int .u8 0, .int .u8 0, .int .u8 0, .int .u8 0, .int .u8 0, .int .u8 0, .int .u8 0, .int .u8 0, .string ⟨#[]⟩, .slice none 0 0, .int .i64 0, .int .u64 0]) rfl (by kernel_rfl) (by kernel_rfl) (by kernel_rfl)) ?_
  refine Rg.pure (d := 8) (op := .load 36 (.tmp 1)) (g := none) (v := .agg #[.int .u32 s, .int .u32 n]) (by kernel_rfl) (by kernel_rfl) (pv_load_blk_whole 1 rfl rfl (by kernel_rfl) (by kernel_rfl)) ?_
  refine Rg.pure (d := 9) (op := .load 36 (.tmp 1)) (g := none) (v := .agg #[.int .u32 s, .int .u32 n]) (by kernel_rfl) (by kernel_rfl) (pv_load_blk_whole 1 rfl rfl (by kernel_rfl) (by kernel_rfl)) ?_
  refine Rg.pure (d := 10) (op := .load 36 (.tmp 1)) (g := none) (v := .agg #[.int .u32 s, .int .u32 n]) (by kernel_rfl) (by kernel_rfl) (pv_load_blk_whole 1 rfl rfl (by kernel_rfl) (by kernel_rfl)) ?_
  refine Rg.pure (d := 11) (op := .build 44 #[(0, .const (.int .u32 2)), (2, .const (.int .u32 493)), (5, .const (.int .i64 2)), (13, .const (.int .i64 1)), (14, .const (.int .u64 3)), (6, .tmp 8), (7, .tmp 9), (8, .tmp 10)]) (g := none) (v := .agg #[.int .u32 2, .int .u32 0, .int .u32 493, .int .u32 0, .int .u32 0, .int .i64 2, .int .u32 s, .int .u32 n, .int .u32 s, .int .u32 n, .int .u32 s, .int .u32 n, .slice none 0 0, .int .u8 0, .int .u8 0, .int .u8 0, .int .u8 0, .int .u8 0, .int .u8 0, .int .u8 0, .int .u8 0, .string ⟨#[]⟩, .slice none 0 0, .int .i64 1, .int .u64 3]) (by kernel_rfl) (by kernel_rfl) (pv_build (parts := [(0, .const (.int .u32 2)), (2, .const (.int .u32 493)), (5, .const (.int .i64 2)), (13, .const (.int .i64 1)), (14, .const (.int .u64 3)), (6, .tmp 8), (7, .tmp 9), (8, .tmp 10)]) (vs := [.int .u32 2, .int .u32 493, .int .i64 2, .int .i64 1, .int .u64 3, .agg #[.int .u32 s, .int .u32 n], .agg #[.int .u32 s, .int .u32 n], .agg #[.int .u32 s, .int .u32 n]]) (fs := [(0, 1), (1, 1), (2, 1), (3, 1), (4, 1), (5, 1), (6, 2), (8, 2), (10, 2), (12, 1), (13, 8), (21, 1), (22, 1), (23, 1), (24, 1)]) (zv := .agg #[.int .u32 0, .int .u32 0, .int .u32 0, .int .u32 0, .int .u32 0, .int .i64 0, .int .u32 0, .int .u32 0, .int .u32 0, .int .u32 0, .int .u32 0, .int .u32 0, .slice none 0 0, .int .u8 0, .int .u8 0, .int .u8 0, .int .u8 0, .int .u8 0, .int .u8 0, .int .u8 0, .int .u8 0, .string ⟨#[]⟩, .slice none 0 0, .int .i64 0, .int .u64 0]) (cs := #[.int .u32 2, .int .u32 0, .int .u32 493, .int .u32 0, .int .u32 0, .int .i64 2, .int .u32 s, .int .u32 n, .int .u32 s, .int .u32 n, .int .u32 s, .int .u32 n, .slice none 0 0, .int .u8 0, .int .u8 0, .int .u8 0, .int .u8 0, .int .u8 0, .int .u8 0, .int .u8 0, .int .u8 0, .string ⟨#[]⟩, .slice none 0 0, .int .i64 1, .int .u64 3]) rfl (by kernel_rfl) (by kernel_rfl) (by kernel_rfl)) ?_
  refine rg_buildSlice (d := 12) (t := 22) (e := 44) (sz := 25) (len := 2) (parts := [(0, .tmp 7), (1, .tmp 11)]) (g := none) (vs := [.agg #[.int .u32 0, .int .u32 0, .int .u32 0, .int .u32 0, .int .u32 0, .int .i64 0, .int .u32 0, .int .u32 0, .int .u32 0, .int .u32 0, .int .u32 0, .int .u32 0, .slice none 0 0, .int .u8 0, .int .u8 0, .int .u8 0, .int .u8 0, .int .u8 0, .int .u8 0, .int .u8 0, .int .u8 0, .string ⟨#[]⟩, .slice none 0 0, .int .i64 0, .int .u64 0], .agg #[.int .u32 2, .int .u32 0, .int .u32 493, .int .u32 0, .int .u32 0, .int .i64 2, .int .u32 s, .int .u32 n, .int .u32 s, .int .u32 n, .int .u32 s, .int .u32 n, .slice none 0 0, .int .u8 0, .int .u8 0, .int .u8 0, .int .u8 0, .int .u8 0, .int .u8 0, .int .u8 0, .int .u8 0, .string ⟨#[]⟩, .slice none 0 0, .int .i64 1, .int .u64 3]]) (cs := #[.int .u32 0, .int .u32 0, .int .u32 0, .int .u32 0, .int .u32 0, .int .i64 0, .int .u32 0, .int .u32 0, .int .u32 0, .int .u32 0, .int .u32 0, .int .u32 0, .slice none 0 0, .int .u8 0, .int .u8 0, .int .u8 0, .int .u8 0, .int .u8 0, .int .u8 0, .int .u8 0, .int .u8 0, .string ⟨#[]⟩, .slice none 0 0, .int .i64 0, .int .u64 0, .int .u32 2, .int .u32 0, .int .u32 493, .int .u32 0, .int .u32 0, .int .i64 2, .int .u32 s, .int .u32 n, .int .u32 s, .int .u32 n, .int .u32 s, .int .u32 n, .slice none 0 0, .int .u8 0, .int .u8 0, .int .u8 0, .int .u8 0, .int .u8 0, .int .u8 0, .int .u8 0, .int .u8 0, .string ⟨#[]⟩, .slice none 0 0, .int .i64 1, .int .u64 3]) (by kernel_rfl) (by kernel_rfl) rfl (by kernel_rfl) (.agg #[.int .u32 0, .int .u32 0, .int .u32 0, .int .u32 0, .int .u32 0, .int .i64 0, .int .u32 0, .int .u32 0, .int .u32 0, .int .u32 0, .int .u32 0, .int .u32 0, .slice none 0 0, .int .u8 0, .int .u8 0, .int .u8 0, .int .u8 0, .int .u8 0, .int .u8 0, .int .u8 0, .int .u8 0, .string ⟨#[]⟩, .slice none 0 0, .int .i64 0, .int .u64 0]) (by kernel_rfl) (by kernel_rfl) (by kernel_rfl) ?_
  intro b3
  refine Rg.pure (d := 13) (op := .build 25 #[(1, .const (.int .u32 1)), (0, .tmp 12)]) (g := none) (v := .agg #[.slice (some ⟨b3, 0, none⟩) 2 2, .int .u32 1]) (by kernel_rfl) (by kernel_rfl) (pv_build (parts := [(1, .const (.int .u32 1)), (0, .tmp 12)]) (vs := [.int .u32 1, .slice (some ⟨b3, 0, none⟩) 2 2]) (fs := [(0, 1), (1, 1)]) (zv := .agg #[.slice none 0 0, .int .u32 0]) (cs := #[.slice (some ⟨b3, 0, none⟩) 2 2, .int .u32 1]) rfl (by kernel_rfl) (by kernel_rfl) (by kernel_rfl)) ?_
  refine rg_store (t := 25) (x := .tmp 2) (y := .tmp 13) (g := none) (cs' := #[.slice (some ⟨b3, 0, none⟩) 2 2, .int .u32 1]) 1 (by kernel_rfl) (by kernel_rfl) rfl rfl rfl (by kernel_rfl) (Nat.le_of_ble_eq_true (by kernel_rfl)) (by kernel_rfl) (by kernel_rfl) ?_
  refine Rg.fin rfl ?_
  refine at_codeS [0, 1, 2, 3] [(2, _)] [blk b3 (.cells #[.int .u32 0, .int .u32 0, .int .u32 0, .int .u32 0, .int .u32 0, .int .i64 0, .int .u32 0, .int .u32 0, .int .u32 0, .int .u32 0, .int .u32 0, .int .u32 0, .slice none 0 0, .int .u8 0, .int .u8 0, .int .u8 0, .int .u8 0, .int .u8 0, .int .u8 0, .int .u8 0, .int .u8 0, .string ⟨#[]⟩, .slice none 0 0, .int .i64 0, .int .u64 0, .int .u32 2, .int .u32 0, .int .u32 493, .int .u32 0, .int .u32 0, .int .i64 2, .int .u32 s, .int .u32 n, .int .u32 s, .int .u32 n, .int .u32 s, .int .u32 n, .slice none 0 0, .int .u8 0, .int .u8 0, .int .u8 0, .int .u8 0, .int .u8 0, .int .u8 0, .int .u8 0, .int .u8 0, .string ⟨#[]⟩, .slice none 0 0, .int .i64 1, .int .u64 3] 44 (0, 0)), blk b2 (.cells #[.slice (some ⟨b3, 0, none⟩) 2 2, .int .u32 1] 25 (0, 0)), blk b1 (.cells #[.int .u32 s, .int .u32 n] 36 (0, 0)), base w (Low w)] (.cons rfl (.nil _)) rfl (by decide) (fun _ _ h => h) ?_
  refine ev_ret (by kernel_rfl) ?_
  refine At.via (Q := Q) hQ ?_
  refine At.retCell rfl rfl (reads_cellA 1 rfl rfl (by kernel_rfl) (by kernel_rfl)) ?_
  exact fun w hw => ⟨b3, trivial, rfl, hw.pick [0, 3] (by decide)⟩

set_option maxHeartbeats 8000000 in
theorem lives_calls {w : World} :
    Calls Try.prog 16 #[] w (Ret w (.bool true)) := by
  refine calls_ofQ (args := []) [base w (Low w)] Try.func16 (by kernel_rfl) (by kernel_rfl) (Heap.start w) ?_
  intro Q hQ
  refine ev_seq (by kernel_rfl) ?_
  refine ev_region (n := 1) (by kernel_rfl) ?_
  refine Rg.pure (d := 0) (op := .assign (.const (.bool false))) (g := none) (v := .bool false) (by kernel_rfl) (by kernel_rfl) (pv_assign rfl) ?_
  refine Rg.fin rfl ?_
  refine at_codeS [0] [(0, _)] [base w (Low w)] (.cons rfl (.nil _)) rfl (by decide) (fun _ _ h => h) ?_
  refine ev_seq (by kernel_rfl) ?_
  refine ev_region (n := 4) (by kernel_rfl) ?_
  refine Rg.pure (d := 16) (op := .build 36 #[(0, .const (.int .u32 5))]) (g := none) (v := .agg #[.int .u32 5, .int .u32 0]) (by kernel_rfl) (by kernel_rfl) (pv_build (parts := [(0, .const (.int .u32 5))]) (vs := [.int .u32 5]) (fs := [(0, 1), (1, 1)]) (zv := .agg #[.int .u32 0, .int .u32 0]) (cs := #[.int .u32 5, .int .u32 0]) rfl (by kernel_rfl) (by kernel_rfl) (by kernel_rfl)) ?_
  refine rg_callN (T := Nat) (d := some 17) (f := 52) (fo := .func 52) (caps := #[]) (xs := #[.tmp 16]) (ts := #[36]) (g := none) (v := fun b1 => .agg #[.slice (some ⟨b1, 0, none⟩) 2 2, .int .u32 1]) (L := fun b1 => [blk b1 (.cells (rootC 5 0 493) 44 (0, 0))]) (by kernel_rfl) (by kernel_rfl) rfl (by kernel_rfl) rfl (fun w hw => New_calls (by decide)) ?_
  rintro b1 _
  dsimp only [putE, List.append, HAppend.hAppend, Append.append]
  refine rg_alloc (d := 1) (t := 25) (g := none) (v := .agg #[.slice none 0 0, .int .u32 0]) (by kernel_rfl) (by kernel_rfl) (by kernel_rfl) ?_
  intro b2
  refine rg_store (t := 25) (x := .tmp 1) (y := .tmp 17) (g := none) (cs' := #[.slice (some ⟨b1, 0, none⟩) 2 2, .int .u32 1]) 0 (by kernel_rfl) (by kernel_rfl) rfl rfl rfl (by kernel_rfl) (Nat.le_of_ble_eq_true (by kernel_rfl)) (by kernel_rfl) (by kernel_rfl) ?_
  refine Rg.fin rfl ?_
  refine at_codeS [0, 1, 2] [(0, _), (1, _)] [blk b2 (.cells #[.slice (some ⟨b1, 0, none⟩) 2 2, .int .u32 1] 25 (0, 0)), blk b1 (.cells (rootC 5 0 493) 44 (0, 0)), base w (Low w)] (.cons rfl (.cons rfl (.nil _))) rfl (by decide) (fun _ _ h => h) ?_
  refine ev_seq (by kernel_rfl) ?_
  refine ev_seq (by kernel_rfl) ?_
  refine ev_region (n := 18) (by kernel_rfl) ?_
  refine Rg.pure (d := 18) (op := .fieldAddr 25 (.tmp 1) 0) (g := none) (v := .pointer (some ⟨b2, 0 + 0, none⟩)) (by kernel_rfl) (by kernel_rfl) (pv_fieldAddr rfl (n := 0) (by kernel_rfl)) ?_
  refine Rg.pure (d := 19) (op := .load 22 (.tmp 18)) (g := none) (v := .slice (some ⟨b1, 0, none⟩) 2 2) (by kernel_rfl) (by kernel_rfl) (pv_load_blk 0 rfl rfl (by kernel_rfl) rfl) ?_
  refine Rg.pure (d := 20) (op := .call { callee := .builtin .len, args := #[.tmp 19], argTypes := #[22] }) (g := none) (v := .int .i64 (2 : Int)) (by kernel_rfl) (by kernel_rfl) (pv_len_slice rfl (by kernel_rfl)) ?_
  refine Rg.pure (d := 21) (op := .binOp .neq 3 (.tmp 20) (.const (.int .i64 2)) 3) (g := none) (v := .bool (!(decide ((2 : Int) = 2)))) (by kernel_rfl) (by kernel_rfl) (pv_neq rfl rfl) ?_
  refine Rg.know 21 (b := !(decide ((2 : Int) = 2))) (c := false) rfl (by decide) ?_
  refine Rg.pure (d := 22) (op := .move (.tmp 21)) (g := none) (v := .bool false) (by kernel_rfl) (by kernel_rfl) (pv_move rfl) ?_
  refine Rg.pure (d := 23) (op := .load 25 (.tmp 1)) (g := some (4, false)) (v := .agg #[.slice (some ⟨b1, 0, none⟩) 2 2, .int .u32 1]) (by kernel_rfl) (by kernel_rfl) (pv_load_blk_whole 0 rfl rfl (by kernel_rfl) (by kernel_rfl)) ?_
  refine rg_call (d := some 24) (f := 15) (xs := #[.tmp 23]) (ts := #[25]) (g := some (4, false)) (v := .bool (checkS (rootN 5 0 493) 1)) (by kernel_rfl) (by kernel_rfl) (by kernel_rfl) rfl (fun w hw => Check_calls (rootN_here hw 1 rfl) rootN_wf) ?_
  refine Rg.pure (d := 25) (op := .unOp .not 4 (.tmp 24)) (g := some (4, false)) (v := .bool (!(checkS (rootN 5 0 493) 1))) (by kernel_rfl) (by kernel_rfl) (pv_not (b := checkS (rootN 5 0 493) 1) rfl) ?_
  refine Rg.pure (d := 26) (op := .pick (.tmp 22) (.const (.bool true)) (.tmp 25)) (g := none) (v := .bool (!(checkS (rootN 5 0 493) 1))) (by kernel_rfl) (by kernel_rfl) (pv_pick_f rfl rfl) ?_
  refine Rg.pure (d := 27) (op := .move (.tmp 26)) (g := none) (v := .bool (!(checkS (rootN 5 0 493) 1))) (by kernel_rfl) (by kernel_rfl) (pv_move rfl) ?_
  refine Rg.split 18 [(35, .bool ((!(checkS (rootN 5 0 493) 1)) || (!(decide (((root 5 0 493).ts) = 5) && (decide (((root 5 0 493).tn) = 0) && true))))), (0, .bool false), (1, .pointer (some ⟨b2, 0, none⟩))] [blk b2 (.cells #[.slice (some ⟨b1, 0, none⟩) 2 2, .int .u32 1] 25 (0, 0)), blk b1 (.cells (rootC 5 0 493) 44 (0, 0)), base w (Low w)] (s := 27) (g := !(checkS (rootN 5 0 493) 1)) rfl (by decide) (fun h1 => ?_) (fun h1 => ?_) ?_
  ·
    refine Rg.skips 17 (by kernel_rfl) ?_
    refine Rg.pure (d := 35) (op := .pick (.tmp 27) (.const (.bool true)) (.tmp 34)) (g := none) (v := .bool true) (by kernel_rfl) (by kernel_rfl) (pv_pick_t rfl rfl) ?_
    refine Rg.fin rfl (At.mid [0, 1, 2] (.cons (or_of_t h1 rfl) (.cons (rfl) (.cons (rfl) (.nil _)))) rfl (by decide))
  ·
    have h2 := not_f h1
    refine Rg.pure (d := 28) (op := .fieldAddr 25 (.tmp 1) 0) (g := some (9, false)) (v := .pointer (some ⟨b2, 0 + 0, none⟩)) (by kernel_rfl) (by kernel_rfl) (pv_fieldAddr rfl (n := 0) (by kernel_rfl)) ?_
    refine Rg.pure (d := 29) (op := .load 22 (.tmp 28)) (g := some (9, false)) (v := .slice (some ⟨b1, 0, none⟩) 2 2) (by kernel_rfl) (by kernel_rfl) (pv_load_blk 0 rfl rfl (by kernel_rfl) rfl) ?_
    refine Rg.pure (d := 30) (op := .indexAddr 22 (.tmp 29) (.const (.int .i64 1))) (g := some (9, false)) (v := .pointer (some ⟨b1, 0 + (1 : Int).toNat * 25, none⟩)) (by kernel_rfl) (by kernel_rfl) (pv_indexAddr rfl rfl (e := 44) (sz := 25) (by kernel_rfl) (by omega) (by omega)) ?_
    refine Rg.pure (d := 31) (op := .fieldAddr 44 (.tmp 30) 8) (g := some (9, false)) (v := .pointer (some ⟨b1, 0 + (1 : Int).toNat * 25 + 10, none⟩)) (by kernel_rfl) (by kernel_rfl) (pv_fieldAddr rfl (n := 10) (by kernel_rfl)) ?_
    refine Rg.pure (d := 32) (op := .load 36 (.tmp 31)) (g := some (9, false)) (v := .agg #[.int .u32 ((root 5 0 493).ts), .int .u32 ((root 5 0 493).tn)]) (by kernel_rfl) (by kernel_rfl) (pv_load_blk_agg 1 rfl rfl (vs := #[.int .u32 ((root 5 0 493).ts), .int .u32 ((root 5 0 493).tn)]) (by kernel_rfl) (by kernel_rfl) (agg_rfl (by kernel_rfl))) ?_
    refine Rg.pure (d := 33) (op := .build 36 #[(0, .const (.int .u32 5))]) (g := some (9, false)) (v := .agg #[.int .u32 5, .int .u32 0]) (by kernel_rfl) (by kernel_rfl) (pv_build (parts := [(0, .const (.int .u32 5))]) (vs := [.int .u32 5]) (fs := [(0, 1), (1, 1)]) (zv := .agg #[.int .u32 0, .int .u32 0]) (cs := #[.int .u32 5, .int .u32 0]) rfl (by kernel_rfl) (by kernel_rfl) (by kernel_rfl)) ?_
    refine Rg.pure (d := 34) (op := .binOp .neq 36 (.tmp 32) (.tmp 33) 36) (g := some (9, false)) (v := .bool (!(decide (((root 5 0 493).ts) = 5) && (decide (((root 5 0 493).tn) = 0) && true)))) (by kernel_rfl) (by kernel_rfl) (pv_neq_struct (b := (decide (((root 5 0 493).ts) = 5) && (decide (((root 5 0 493).tn) = 0) && true))) rfl rfl (by kernel_rfl) (by kernel_rfl) (by kernel_rfl) (by kernel_rfl)) ?_
    refine Rg.pure (d := 35) (op := .pick (.tmp 27) (.const (.bool true)) (.tmp 34)) (g := none) (v := .bool (!(decide (((root 5 0 493).ts) = 5) && (decide (((root 5 0 493).tn) = 0) && true)))) (by kernel_rfl) (by kernel_rfl) (pv_pick_f rfl rfl) ?_
    refine Rg.fin rfl (At.mid [0, 1, 2] (.cons (or_of_f h1 rfl) (.cons (rfl) (.cons (rfl) (.nil _)))) rfl (by decide))
  refine Rg.fin rfl ?_
  refine at_codeS [0, 1, 2] [(0, _), (1, _), (35, _)] [blk b2 (.cells #[.slice (some ⟨b1, 0, none⟩) 2 2, .int .u32 1] 25 (0, 0)), blk b1 (.cells (rootC 5 0 493) 44 (0, 0)), base w (Low w)] (.cons rfl (.cons rfl (.cons rfl (.nil _)))) rfl (by decide) (fun _ _ h => h) ?_
  refine ev_cond_f (t := 35) (by kernel_rfl) (by kernel_rfl) ?_
  refine ev_skip (by kernel_rfl) ?_
  refine at_codeS [0, 1, 2] [(0, _), (1, _)] [blk b2 (.cells #[.slice (some ⟨b1, 0, none⟩) 2 2, .int .u32 1] 25 (0, 0)), blk b1 (.cells (rootC 5 0 493) 44 (0, 0)), base w (Low w)] (.cons rfl (.cons rfl (.nil _))) rfl (by decide) (fun _ _ h => h) ?_
  refine ev_seq (by kernel_rfl) ?_
  refine ev_region (n := 7) (by kernel_rfl) ?_
  refine Rg.pure (d := 37) (op := .load 25 (.tmp 1)) (g := none) (v := .agg #[.slice (some ⟨b1, 0, none⟩) 2 2, .int .u32 1]) (by kernel_rfl) (by kernel_rfl) (pv_load_blk_whole 0 rfl rfl (by kernel_rfl) (by kernel_rfl)) ?_
  refine rg_callN (T := Option Addr × Nat) (d := some 38) (f := 17) (fo := .func 17) (caps := #[]) (xs := #[.tmp 37, .const (.int .i64 1)]) (ts := #[25, 3]) (g := none) (v := fun ⟨p3, c4⟩ => .tuple #[.slice p3 ((hdlB (rootN 5 0 493) 1).length) c4, .int .i64 (hdlE (rootN 5 0 493) 1)]) (L := fun ⟨p3, c4⟩ => [own 5 1 p3 ((hdlB (rootN 5 0 493) 1).length) c4 (bv (hdlB (rootN 5 0 493) 1))]) (by kernel_rfl) (by kernel_rfl) rfl (by kernel_rfl) rfl (fun w hw => Handle_calls (rootN_here hw 1 rfl) rootN_wf) ?_
  rintro ⟨p3, c4⟩ hc_c4
  dsimp only [putE, List.append, HAppend.hAppend, Append.append]
  have hk_c4 : (hdlB (rootN 5 0 493) 1).length ≤ c4 := hc_c4
  refine Rg.pure (d := 36) (op := .move (.tmp 38)) (g := none) (v := .tuple #[.slice p3 ((hdlB (rootN 5 0 493) 1).length) c4, .int .i64 (hdlE (rootN 5 0 493) 1)]) (by kernel_rfl) (by kernel_rfl) (pv_move rfl) ?_
  refine Rg.pure (d := 39) (op := .extract (.tmp 36) 0) (g := none) (v := .slice p3 ((hdlB (rootN 5 0 493) 1).length) c4) (by kernel_rfl) (by kernel_rfl) (pv_extract rfl rfl) ?_
  refine Rg.pure (d := 40) (op := .extract (.tmp 36) 1) (g := none) (v := .int .i64 (hdlE (rootN 5 0 493) 1)) (by kernel_rfl) (by kernel_rfl) (pv_extract rfl rfl) ?_
  refine Rg.pure (d := 2) (op := .assign (.tmp 39)) (g := none) (v := .slice p3 ((hdlB (rootN 5 0 493) 1).length) c4) (by kernel_rfl) (by kernel_rfl) (pv_assign rfl) ?_
  refine Rg.pure (d := 3) (op := .assign (.tmp 40)) (g := none) (v := .int .i64 (hdlE (rootN 5 0 493) 1)) (by kernel_rfl) (by kernel_rfl) (pv_assign rfl) ?_
  refine Rg.fin rfl ?_
  refine at_codeS [0, 1, 2, 3] [(0, _), (1, _), (2, _), (3, _)] [own 5 1 p3 ((hdlB (rootN 5 0 493) 1).length) c4 (bv (hdlB (rootN 5 0 493) 1)), blk b2 (.cells #[.slice (some ⟨b1, 0, none⟩) 2 2, .int .u32 1] 25 (0, 0)), blk b1 (.cells (rootC 5 0 493) 44 (0, 0)), base w (Low w)] (.cons rfl (.cons rfl (.cons rfl (.cons rfl (.nil _))))) rfl (by decide) (fun _ _ h => h) ?_
  refine ev_seq (by kernel_rfl) ?_
  refine ev_region (n := 8) (by kernel_rfl) ?_
  refine Rg.pure (d := 42) (op := .load 25 (.tmp 1)) (g := none) (v := .agg #[.slice (some ⟨b1, 0, none⟩) 2 2, .int .u32 1]) (by kernel_rfl) (by kernel_rfl) (pv_load_blk_whole 1 rfl rfl (by kernel_rfl) (by kernel_rfl)) ?_
  refine Rg.pure (d := 43) (op := .move (.tmp 2)) (g := none) (v := .slice p3 ((hdlB (rootN 5 0 493) 1).length) c4) (by kernel_rfl) (by kernel_rfl) (pv_move rfl) ?_
  refine rg_call (d := some 44) (f := 19) (xs := #[.tmp 42, .tmp 43]) (ts := #[25, 29]) (g := none) (v := .tuple #[.int .i64 ((findS (rootN 5 0 493) (hdlB (rootN 5 0 493) 1)).1), .int .u32 ((findS (rootN 5 0 493) (hdlB (rootN 5 0 493) 1)).2)]) (by kernel_rfl) (by kernel_rfl) (by kernel_rfl) rfl (fun w hw => Find_calls (rootN_here hw 2 rfl) rootN_wf (own_bytes hw 0 rfl) (by decide) (by have h := hk_c4; exact h)) ?_
  refine Rg.pure (d := 41) (op := .move (.tmp 44)) (g := none) (v := .tuple #[.int .i64 ((findS (rootN 5 0 493) (hdlB (rootN 5 0 493) 1)).1), .int .u32 ((findS (rootN 5 0 493) (hdlB (rootN 5 0 493) 1)).2)]) (by kernel_rfl) (by kernel_rfl) (pv_move rfl) ?_
  refine Rg.pure (d := 45) (op := .extract (.tmp 41) 0) (g := none) (v := .int .i64 ((findS (rootN 5 0 493) (hdlB (rootN 5 0 493) 1)).1)) (by kernel_rfl) (by kernel_rfl) (pv_extract rfl rfl) ?_
  refine Rg.pure (d := 46) (op := .extract (.tmp 41) 1) (g := none) (v := .int .u32 ((findS (rootN 5 0 493) (hdlB (rootN 5 0 493) 1)).2)) (by kernel_rfl) (by kernel_rfl) (pv_extract rfl rfl) ?_
  refine Rg.pure (d := 4) (op := .assign (.tmp 45)) (g := none) (v := .int .i64 ((findS (rootN 5 0 493) (hdlB (rootN 5 0 493) 1)).1)) (by kernel_rfl) (by kernel_rfl) (pv_assign rfl) ?_
  refine Rg.pure (d := 5) (op := .assign (.tmp 46)) (g := none) (v := .int .u32 ((findS (rootN 5 0 493) (hdlB (rootN 5 0 493) 1)).2)) (by kernel_rfl) (by kernel_rfl) (pv_assign rfl) ?_
  refine Rg.fin rfl ?_
  refine at_codeS [0, 1, 2, 3] [(0, _), (1, _), (3, _), (4, _), (5, _)] [own 5 1 p3 ((hdlB (rootN 5 0 493) 1).length) c4 (bv (hdlB (rootN 5 0 493) 1)), blk b2 (.cells #[.slice (some ⟨b1, 0, none⟩) 2 2, .int .u32 1] 25 (0, 0)), blk b1 (.cells (rootC 5 0 493) 44 (0, 0)), base w (Low w)] (.cons rfl (.cons rfl (.cons rfl (.cons rfl (.cons rfl (.nil _)))))) rfl (by decide) (fun _ _ h => h) ?_
  refine ev_seq (by kernel_rfl) ?_
  refine ev_region (n := 7) (by kernel_rfl) ?_
  refine Rg.pure (d := 48) (op := .load 25 (.tmp 1)) (g := none) (v := .agg #[.slice (some ⟨b1, 0, none⟩) 2 2, .int .u32 1]) (by kernel_rfl) (by kernel_rfl) (pv_load_blk_whole 1 rfl rfl (by kernel_rfl) (by kernel_rfl)) ?_
  refine rg_call (d := some 49) (f := 19) (xs := #[.tmp 48, .const (.slice none 0 0)]) (ts := #[25, 29]) (g := none) (v := .tuple #[.int .i64 ((findS (rootN 5 0 493) ([] : List Int)).1), .int .u32 ((findS (rootN 5 0 493) ([] : List Int)).2)]) (by kernel_rfl) (by kernel_rfl) (by kernel_rfl) rfl (fun w hw => Find_calls (rootN_here hw 2 rfl) rootN_wf (nil_bytes) (by decide) (by decide)) ?_
  refine Rg.pure (d := 47) (op := .move (.tmp 49)) (g := none) (v := .tuple #[.int .i64 ((findS (rootN 5 0 493) ([] : List Int)).1), .int .u32 ((findS (rootN 5 0 493) ([] : List Int)).2)]) (by kernel_rfl) (by kernel_rfl) (pv_move rfl) ?_
  refine Rg.pure (d := 50) (op := .extract (.tmp 47) 0) (g := none) (v := .int .i64 ((findS (rootN 5 0 493) ([] : List Int)).1)) (by kernel_rfl) (by kernel_rfl) (pv_extract rfl rfl) ?_
  refine Rg.pure (d := 51) (op := .extract (.tmp 47) 1) (g := none) (v := .int .u32 ((findS (rootN 5 0 493) ([] : List Int)).2)) (by kernel_rfl) (by kernel_rfl) (pv_extract rfl rfl) ?_
  refine Rg.pure (d := 6) (op := .assign (.tmp 50)) (g := none) (v := .int .i64 ((findS (rootN 5 0 493) ([] : List Int)).1)) (by kernel_rfl) (by kernel_rfl) (pv_assign rfl) ?_
  refine Rg.pure (d := 7) (op := .assign (.tmp 51)) (g := none) (v := .int .u32 ((findS (rootN 5 0 493) ([] : List Int)).2)) (by kernel_rfl) (by kernel_rfl) (pv_assign rfl) ?_
  refine Rg.fin rfl ?_
  refine at_codeS [0, 1, 2, 3] [(0, _), (1, _), (3, _), (4, _), (5, _), (7, _)] [own 5 1 p3 ((hdlB (rootN 5 0 493) 1).length) c4 (bv (hdlB (rootN 5 0 493) 1)), blk b2 (.cells #[.slice (some ⟨b1, 0, none⟩) 2 2, .int .u32 1] 25 (0, 0)), blk b1 (.cells (rootC 5 0 493) 44 (0, 0)), base w (Low w)] (.cons rfl (.cons rfl (.cons rfl (.cons rfl (.cons rfl (.cons rfl (.nil _))))))) rfl (by decide) (fun _ _ h => h) ?_
  refine ev_seq (by kernel_rfl) ?_
  refine ev_region (n := 7) (by kernel_rfl) ?_
  refine Rg.pure (d := 53) (op := .build 132 #[(0, .const (.int .i64 1)), (1, .const (.int .u32 7))]) (g := none) (v := .agg #[.int .i64 1, .int .u32 7]) (by kernel_rfl) (by kernel_rfl) (pv_build (parts := [(0, .const (.int .i64 1)), (1, .const (.int .u32 7))]) (vs := [.int .i64 1, .int .u32 7]) (fs := [(0, 1), (1, 1)]) (zv := .agg #[.int .i64 0, .int .u32 0]) (cs := #[.int .i64 1, .int .u32 7]) rfl (by kernel_rfl) (by kernel_rfl) (by kernel_rfl)) ?_
  refine rg_callN (T := Option Addr × Nat) (d := some 54) (f := 61) (fo := .func 61) (caps := #[]) (xs := #[.tmp 53]) (ts := #[132]) (g := none) (v := fun ⟨p6, c7⟩ => .tuple #[.slice p6 16 c7, .int .i64 0]) (L := fun ⟨p6, c7⟩ => [own 5 1 p6 16 c7 (bv (hB 1 7))]) (by kernel_rfl) (by kernel_rfl) rfl (by kernel_rfl) rfl (fun w hw => hPut_calls (by decide) (by decide)) ?_
  rintro ⟨p6, c7⟩ hc_c7
  dsimp only [putE, List.append, HAppend.hAppend, Append.append]
  have hk_c7 : 16 ≤ c7 := hc_c7
  refine Rg.pure (d := 52) (op := .move (.tmp 54)) (g := none) (v := .tuple #[.slice p6 16 c7, .int .i64 0]) (by kernel_rfl) (by kernel_rfl) (pv_move rfl) ?_
  refine Rg.pure (d := 55) (op := .extract (.tmp 52) 0) (g := none) (v := .slice p6 16 c7) (by kernel_rfl) (by kernel_rfl) (pv_extract rfl rfl) ?_
  refine Rg.pure (d := 56) (op := .extract (.tmp 52) 1) (g := none) (v := .int .i64 0) (by kernel_rfl) (by kernel_rfl) (pv_extract rfl rfl) ?_
  refine Rg.pure (d := 8) (op := .assign (.tmp 55)) (g := none) (v := .slice p6 16 c7) (by kernel_rfl) (by kernel_rfl) (pv_assign rfl) ?_
  refine Rg.pure (d := 9) (op := .assign (.tmp 56)) (g := none) (v := .int .i64 0) (by kernel_rfl) (by kernel_rfl) (pv_assign rfl) ?_
  refine Rg.fin rfl ?_
  refine at_codeS [0, 1, 2, 3, 4] [(0, _), (1, _), (3, _), (4, _), (5, _), (7, _), (8, _), (9, _)] [own 5 1 p6 16 c7 (bv (hB 1 7)), own 5 1 p3 ((hdlB (rootN 5 0 493) 1).length) c4 (bv (hdlB (rootN 5 0 493) 1)), blk b2 (.cells #[.slice (some ⟨b1, 0, none⟩) 2 2, .int .u32 1] 25 (0, 0)), blk b1 (.cells (rootC 5 0 493) 44 (0, 0)), base w (Low w)] (.cons rfl (.cons rfl (.cons rfl (.cons rfl (.cons rfl (.cons rfl (.cons rfl (.cons rfl (.nil _))))))))) rfl (by decide) (fun _ _ h => h) ?_
  refine ev_seq (by kernel_rfl) ?_
  refine ev_region (n := 8) (by kernel_rfl) ?_
  refine Rg.pure (d := 58) (op := .load 25 (.tmp 1)) (g := none) (v := .agg #[.slice (some ⟨b1, 0, none⟩) 2 2, .int .u32 1]) (by kernel_rfl) (by kernel_rfl) (pv_load_blk_whole 2 rfl rfl (by kernel_rfl) (by kernel_rfl)) ?_
  refine Rg.pure (d := 59) (op := .move (.tmp 8)) (g := none) (v := .slice p6 16 c7) (by kernel_rfl) (by kernel_rfl) (pv_move rfl) ?_
  refine rg_call (d := some 60) (f := 19) (xs := #[.tmp 58, .tmp 59]) (ts := #[25, 29]) (g := none) (v := .tuple #[.int .i64 ((findS (rootN 5 0 493) (hB 1 7)).1), .int .u32 ((findS (rootN 5 0 493) (hB 1 7)).2)]) (by kernel_rfl) (by kernel_rfl) (by kernel_rfl) rfl (fun w hw => Find_calls (rootN_here hw 3 rfl) rootN_wf (own_bytes hw 0 rfl) (by decide) (by have h := hk_c7; exact h)) ?_
  refine Rg.pure (d := 57) (op := .move (.tmp 60)) (g := none) (v := .tuple #[.int .i64 ((findS (rootN 5 0 493) (hB 1 7)).1), .int .u32 ((findS (rootN 5 0 493) (hB 1 7)).2)]) (by kernel_rfl) (by kernel_rfl) (pv_move rfl) ?_
  refine Rg.pure (d := 61) (op := .extract (.tmp 57) 0) (g := none) (v := .int .i64 ((findS (rootN 5 0 493) (hB 1 7)).1)) (by kernel_rfl) (by kernel_rfl) (pv_extract rfl rfl) ?_
  refine Rg.pure (d := 62) (op := .extract (.tmp 57) 1) (g := none) (v := .int .u32 ((findS (rootN 5 0 493) (hB 1 7)).2)) (by kernel_rfl) (by kernel_rfl) (pv_extract rfl rfl) ?_
  refine Rg.pure (d := 10) (op := .assign (.tmp 61)) (g := none) (v := .int .i64 ((findS (rootN 5 0 493) (hB 1 7)).1)) (by kernel_rfl) (by kernel_rfl) (pv_assign rfl) ?_
  refine Rg.pure (d := 11) (op := .assign (.tmp 62)) (g := none) (v := .int .u32 ((findS (rootN 5 0 493) (hB 1 7)).2)) (by kernel_rfl) (by kernel_rfl) (pv_assign rfl) ?_
  refine Rg.fin rfl ?_
  refine at_codeS [0, 1, 2, 3, 4] [(0, _), (1, _), (3, _), (4, _), (5, _), (7, _), (9, _), (11, _)] [own 5 1 p6 16 c7 (bv (hB 1 7)), own 5 1 p3 ((hdlB (rootN 5 0 493) 1).length) c4 (bv (hdlB (rootN 5 0 493) 1)), blk b2 (.cells #[.slice (some ⟨b1, 0, none⟩) 2 2, .int .u32 1] 25 (0, 0)), blk b1 (.cells (rootC 5 0 493) 44 (0, 0)), base w (Low w)] (.cons rfl (.cons rfl (.cons rfl (.cons rfl (.cons rfl (.cons rfl (.cons rfl (.cons rfl (.nil _))))))))) rfl (by decide) (fun _ _ h => h) ?_
  refine ev_seq (by kernel_rfl) ?_
  refine ev_region (n := 7) (by kernel_rfl) ?_
  refine Rg.pure (d := 64) (op := .load 25 (.tmp 1)) (g := none) (v := .agg #[.slice (some ⟨b1, 0, none⟩) 2 2, .int .u32 1]) (by kernel_rfl) (by kernel_rfl) (pv_load_blk_whole 2 rfl rfl (by kernel_rfl) (by kernel_rfl)) ?_
  refine rg_callN (T := Option Addr × Nat) (d := some 65) (f := 17) (fo := .func 17) (caps := #[]) (xs := #[.tmp 64, .const (.int .i64 2)]) (ts := #[25, 3]) (g := none) (v := fun ⟨p9, c10⟩ => .tuple #[.slice p9 ((hdlB (rootN 5 0 493) 2).length) c10, .int .i64 (hdlE (rootN 5 0 493) 2)]) (L := fun ⟨p9, c10⟩ => [own 5 1 p9 ((hdlB (rootN 5 0 493) 2).length) c10 (bv (hdlB (rootN 5 0 493) 2))]) (by kernel_rfl) (by kernel_rfl) rfl (by kernel_rfl) rfl (fun w hw => Handle_calls (rootN_here hw 3 rfl) rootN_wf) ?_
  rintro ⟨p9, c10⟩ hc_c10
  dsimp only [putE, List.append, HAppend.hAppend, Append.append]
  have hk_c10 : (hdlB (rootN 5 0 493) 2).length ≤ c10 := hc_c10
  refine Rg.pure (d := 63) (op := .move (.tmp 65)) (g := none) (v := .tuple #[.slice p9 ((hdlB (rootN 5 0 493) 2).length) c10, .int .i64 (hdlE (rootN 5 0 493) 2)]) (by kernel_rfl) (by kernel_rfl) (pv_move rfl) ?_
  refine Rg.pure (d := 66) (op := .extract (.tmp 63) 0) (g := none) (v := .slice p9 ((hdlB (rootN 5 0 493) 2).length) c10) (by kernel_rfl) (by kernel_rfl) (pv_extract rfl rfl) ?_
  refine Rg.pure (d := 67) (op := .extract (.tmp 63) 1) (g := none) (v := .int .i64 (hdlE (rootN 5 0 493) 2)) (by kernel_rfl) (by kernel_rfl) (pv_extract rfl rfl) ?_
  refine Rg.pure (d := 12) (op := .assign (.tmp 66)) (g := none) (v := .slice p9 ((hdlB (rootN 5 0 493) 2).length) c10) (by kernel_rfl) (by kernel_rfl) (pv_assign rfl) ?_
  refine Rg.pure (d := 13) (op := .assign (.tmp 67)) (g := none) (v := .int .i64 (hdlE (rootN 5 0 493) 2)) (by kernel_rfl) (by kernel_rfl) (pv_assign rfl) ?_
  refine Rg.fin rfl ?_
  refine at_codeS [0, 1, 2, 3, 4, 5] [(0, _), (1, _), (3, _), (4, _), (5, _), (7, _), (9, _), (11, _), (13, _)] [own 5 1 p9 ((hdlB (rootN 5 0 493) 2).length) c10 (bv (hdlB (rootN 5 0 493) 2)), own 5 1 p6 16 c7 (bv (hB 1 7)), own 5 1 p3 ((hdlB (rootN 5 0 493) 1).length) c4 (bv (hdlB (rootN 5 0 493) 1)), blk b2 (.cells #[.slice (some ⟨b1, 0, none⟩) 2 2, .int .u32 1] 25 (0, 0)), blk b1 (.cells (rootC 5 0 493) 44 (0, 0)), base w (Low w)] (.cons rfl (.cons rfl (.cons rfl (.cons rfl (.cons rfl (.cons rfl (.cons rfl (.cons rfl (.cons rfl (.nil _)))))))))) rfl (by decide) (fun _ _ h => h) ?_
  refine ev_seq (by kernel_rfl) ?_
  refine ev_region (n := 8) (by kernel_rfl) ?_
  refine Rg.pure (d := 69) (op := .load 25 (.tmp 1)) (g := none) (v := .agg #[.slice (some ⟨b1, 0, none⟩) 2 2, .int .u32 1]) (by kernel_rfl) (by kernel_rfl) (pv_load_blk_whole 3 rfl rfl (by kernel_rfl) (by kernel_rfl)) ?_
  refine rg_call (d := some 70) (f := 18) (xs := #[.tmp 69, .const (.int .i64 1)]) (ts := #[25, 3]) (g := none) (v := .tuple #[.agg (attrsS (rootN 5 0 493) 1), .bool (thereS (rootN 5 0 493) 1)]) (by kernel_rfl) (by kernel_rfl) (by kernel_rfl) rfl (fun w hw => Attrs_calls (rootN_here hw 4 rfl) rootN_wf) ?_
  refine Rg.pure (d := 68) (op := .move (.tmp 70)) (g := none) (v := .tuple #[.agg (attrsS (rootN 5 0 493) 1), .bool (thereS (rootN 5 0 493) 1)]) (by kernel_rfl) (by kernel_rfl) (pv_move rfl) ?_
  refine Rg.pure (d := 71) (op := .extract (.tmp 68) 0) (g := none) (v := .agg (attrsS (rootN 5 0 493) 1)) (by kernel_rfl) (by kernel_rfl) (pv_extract rfl rfl) ?_
  refine Rg.pure (d := 72) (op := .extract (.tmp 68) 1) (g := none) (v := .bool (thereS (rootN 5 0 493) 1)) (by kernel_rfl) (by kernel_rfl) (pv_extract rfl rfl) ?_
  refine rg_alloc (d := 14) (t := 38) (g := none) (v := .agg #[.int .u32 0, .int .u32 0, .int .u32 0, .int .u32 0, .int .u32 0, .int .u64 0, .int .u64 0, .int .u64 0, .int .u32 0, .int .u32 0, .int .u32 0, .int .u32 0, .int .u32 0, .int .u32 0]) (by kernel_rfl) (by kernel_rfl) (by kernel_rfl) ?_
  intro b12
  refine rg_store (t := 38) (x := .tmp 14) (y := .tmp 71) (g := none) (cs' := (attrsS (rootN 5 0 493) 1)) 0 (by kernel_rfl) (by kernel_rfl) rfl rfl rfl (by show szT Try.prog 38 = some ((attrsS (rootN 5 0 493) 1)).size; rw [attrs_size]; kernel_rfl) (by show 0 + ((attrsS (rootN 5 0 493) 1)).size ≤ _; rw [attrs_size]; decide) (attrs_one _ _) (attrs_put _ _ _ rfl) ?_
  refine Rg.pure (d := 15) (op := .assign (.tmp 72)) (g := none) (v := .bool (thereS (rootN 5 0 493) 1)) (by kernel_rfl) (by kernel_rfl) (pv_assign rfl) ?_
  refine Rg.fin rfl ?_
  refine at_codeS [0, 1, 2, 3, 4, 5, 6] [(0, _), (1, _), (3, _), (4, _), (5, _), (7, _), (9, _), (11, _), (13, _), (14, _), (15, _)] [blk b12 (.cells (attrsS (rootN 5 0 493) 1) 38 (0, 0)), own 5 1 p9 ((hdlB (rootN 5 0 493) 2).length) c10 (bv (hdlB (rootN 5 0 493) 2)), own 5 1 p6 16 c7 (bv (hB 1 7)), own 5 1 p3 ((hdlB (rootN 5 0 493) 1).length) c4 (bv (hdlB (rootN 5 0 493) 1)), blk b2 (.cells #[.slice (some ⟨b1, 0, none⟩) 2 2, .int .u32 1] 25 (0, 0)), blk b1 (.cells (rootC 5 0 493) 44 (0, 0)), base w (Low w)] (.cons rfl (.cons rfl (.cons rfl (.cons rfl (.cons rfl (.cons rfl (.cons rfl (.cons rfl (.cons rfl (.cons rfl (.cons rfl (.nil _)))))))))))) rfl (by decide) (fun _ _ h => h) ?_
  refine ev_seq (by kernel_rfl) ?_
  refine ev_region (n := 5) (by kernel_rfl) ?_
  refine Rg.pure (d := 73) (op := .fieldAddr 25 (.tmp 1) 0) (g := none) (v := .pointer (some ⟨b2, 0 + 0, none⟩)) (by kernel_rfl) (by kernel_rfl) (pv_fieldAddr rfl (n := 0) (by kernel_rfl)) ?_
  refine Rg.pure (d := 74) (op := .load 22 (.tmp 73)) (g := none) (v := .slice (some ⟨b1, 0, none⟩) 2 2) (by kernel_rfl) (by kernel_rfl) (pv_load_blk 4 rfl rfl (by kernel_rfl) rfl) ?_
  refine Rg.pure (d := 75) (op := .indexAddr 22 (.tmp 74) (.const (.int .i64 1))) (g := none) (v := .pointer (some ⟨b1, 0 + (1 : Int).toNat * 25, none⟩)) (by kernel_rfl) (by kernel_rfl) (pv_indexAddr rfl rfl (e := 44) (sz := 25) (by kernel_rfl) (by omega) (by omega)) ?_
  refine Rg.pure (d := 76) (op := .fieldAddr 44 (.tmp 75) 2) (g := none) (v := .pointer (some ⟨b1, 0 + (1 : Int).toNat * 25 + 2, none⟩)) (by kernel_rfl) (by kernel_rfl) (pv_fieldAddr rfl (n := 2) (by kernel_rfl)) ?_
  refine rg_store (t := 23) (x := .tmp 76) (y := .const (.int .u32 4096)) (g := none) (cs' := (rootC 5 0 4096)) 5 (by kernel_rfl) (by kernel_rfl) rfl rfl rfl (by kernel_rfl) (Nat.le_of_ble_eq_true (by kernel_rfl)) (by kernel_rfl) (by kernel_rfl) ?_
  refine Rg.fin rfl ?_
  refine at_codeS [0, 1, 2, 3, 4, 5, 6] [(0, _), (1, _), (3, _), (4, _), (5, _), (7, _), (9, _), (11, _), (13, _), (14, _), (15, _)] [blk b12 (.cells (attrsS (rootN 5 0 493) 1) 38 (0, 0)), own 5 1 p9 ((hdlB (rootN 5 0 493) 2).length) c10 (bv (hdlB (rootN 5 0 493) 2)), own 5 1 p6 16 c7 (bv (hB 1 7)), own 5 1 p3 ((hdlB (rootN 5 0 493) 1).length) c4 (bv (hdlB (rootN 5 0 493) 1)), blk b2 (.cells #[.slice (some ⟨b1, 0, none⟩) 2 2, .int .u32 1] 25 (0, 0)), blk b1 (.cells (rootC 5 0 4096) 44 (0, 0)), base w (Low w)] (.cons rfl (.cons rfl (.cons rfl (.cons rfl (.cons rfl (.cons rfl (.cons rfl (.cons rfl (.cons rfl (.cons rfl (.cons rfl (.nil _)))))))))))) rfl (by decide) (fun _ _ h => h) ?_
  refine ev_seq (by kernel_rfl) ?_
  refine ev_region (n := 50) (by kernel_rfl) ?_
  refine Rg.pure (d := 77) (op := .move (.tmp 3)) (g := none) (v := .int .i64 (hdlE (rootN 5 0 493) 1)) (by kernel_rfl) (by kernel_rfl) (pv_move rfl) ?_
  refine Rg.pure (d := 78) (op := .binOp .eql 30 (.tmp 77) (.const (.int .i64 0)) 30) (g := none) (v := .bool (decide ((hdlE (rootN 5 0 493) 1) = 0))) (by kernel_rfl) (by kernel_rfl) (pv_eql rfl rfl) ?_
  refine Rg.pure (d := 79) (op := .move (.tmp 78)) (g := none) (v := .bool (decide ((hdlE (rootN 5 0 493) 1) = 0))) (by kernel_rfl) (by kernel_rfl) (pv_move rfl) ?_
  refine Rg.split 6 [(82, .bool ((decide ((hdlE (rootN 5 0 493) 1) = 0)) && (decide (((findS (rootN 5 0 493) (hdlB (rootN 5 0 493) 1)).1) = 1)))), (0, .bool false), (1, .pointer (some ⟨b2, 0, none⟩)), (5, .int .u32 ((findS (rootN 5 0 493) (hdlB (rootN 5 0 493) 1)).2)), (7, .int .u32 ((findS (rootN 5 0 493) ([] : List Int)).2)), (9, .int .i64 0), (11, .int .u32 ((findS (rootN 5 0 493) (hB 1 7)).2)), (13, .int .i64 (hdlE (rootN 5 0 493) 2)), (14, .pointer (some ⟨b12, 0, none⟩)), (15, .bool (thereS (rootN 5 0 493) 1))] [blk b12 (.cells (attrsS (rootN 5 0 493) 1) 38 (0, 0)), own 5 1 p9 ((hdlB (rootN 5 0 493) 2).length) c10 (bv (hdlB (rootN 5 0 493) 2)), own 5 1 p6 16 c7 (bv (hB 1 7)), own 5 1 p3 ((hdlB (rootN 5 0 493) 1).length) c4 (bv (hdlB (rootN 5 0 493) 1)), blk b2 (.cells #[.slice (some ⟨b1, 0, none⟩) 2 2, .int .u32 1] 25 (0, 0)), blk b1 (.cells (rootC 5 0 4096) 44 (0, 0)), base w (Low w)] (s := 79) (g := decide ((hdlE (rootN 5 0 493) 1) = 0)) rfl (by decide) (fun h3 => ?_) (fun h3 => ?_) ?_
  ·
    have h4 := of_decide_eq_true h3
    refine Rg.pure (d := 80) (op := .move (.tmp 4)) (g := some (2, true)) (v := .int .i64 ((findS (rootN 5 0 493) (hdlB (rootN 5 0 493) 1)).1)) (by kernel_rfl) (by kernel_rfl) (pv_move rfl) ?_
    refine Rg.pure (d := 81) (op := .binOp .eql 3 (.tmp 80) (.const (.int .i64 1)) 3) (g := some (2, true)) (v := .bool (decide (((findS (rootN 5 0 493) (hdlB (rootN 5 0 493) 1)).1) = 1))) (by kernel_rfl) (by kernel_rfl) (pv_eql rfl rfl) ?_
    refine Rg.pure (d := 82) (op := .pick (.tmp 79) (.tmp 81) (.const (.bool false))) (g := none) (v := .bool (decide (((findS (rootN 5 0 493) (hdlB (rootN 5 0 493) 1)).1) = 1))) (by kernel_rfl) (by kernel_rfl) (pv_pick_t rfl rfl) ?_
    refine Rg.fin rfl (At.mid [0, 1, 2, 3, 4, 5, 6] (.cons (and_of_t h3 rfl) (.cons (rfl) (.cons (rfl) (.cons (rfl) (.cons (rfl) (.cons (rfl) (.cons (rfl) (.cons (rfl) (.cons (rfl) (.cons (rfl) (.nil _))))))))))) rfl (by decide))
  ·
    refine Rg.skips 5 (by kernel_rfl) ?_
    refine Rg.pure (d := 82) (op := .pick (.tmp 79) (.tmp 81) (.const (.bool false))) (g := none) (v := .bool false) (by kernel_rfl) (by kernel_rfl) (pv_pick_f rfl rfl) ?_
    refine Rg.fin rfl (At.mid [0, 1, 2, 3, 4, 5, 6] (.cons (and_of_f h3 rfl) (.cons (rfl) (.cons (rfl) (.cons (rfl) (.cons (rfl) (.cons (rfl) (.cons (rfl) (.cons (rfl) (.cons (rfl) (.cons (rfl) (.nil _))))))))))) rfl (by decide))
  refine Rg.pure (d := 83) (op := .move (.tmp 82)) (g := none) (v := .bool ((decide ((hdlE (rootN 5 0 493) 1) = 0)) && (decide (((findS (rootN 5 0 493) (hdlB (rootN 5 0 493) 1)).1) = 1)))) (by kernel_rfl) (by kernel_rfl) (pv_move rfl) ?_
  refine Rg.split 10 [(86, .bool (((decide ((hdlE (rootN 5 0 493) 1) = 0)) && (decide (((findS (rootN 5 0 493) (hdlB (rootN 5 0 493) 1)).1) = 1))) && (decide (((findS (rootN 5 0 493) (hdlB (rootN 5 0 493) 1)).2) = 0)))), (0, .bool false), (1, .pointer (some ⟨b2, 0, none⟩)), (7, .int .u32 ((findS (rootN 5 0 493) ([] : List Int)).2)), (9, .int .i64 0), (11, .int .u32 ((findS (rootN 5 0 493) (hB 1 7)).2)), (13, .int .i64 (hdlE (rootN 5 0 493) 2)), (14, .pointer (some ⟨b12, 0, none⟩)), (15, .bool (thereS (rootN 5 0 493) 1))] [blk b12 (.cells (attrsS (rootN 5 0 493) 1) 38 (0, 0)), own 5 1 p9 ((hdlB (rootN 5 0 493) 2).length) c10 (bv (hdlB (rootN 5 0 493) 2)), own 5 1 p6 16 c7 (bv (hB 1 7)), own 5 1 p3 ((hdlB (rootN 5 0 493) 1).length) c4 (bv (hdlB (rootN 5 0 493) 1)), blk b2 (.cells #[.slice (some ⟨b1, 0, none⟩) 2 2, .int .u32 1] 25 (0, 0)), blk b1 (.cells (rootC 5 0 4096) 44 (0, 0)), base w (Low w)] (s := 83) (g := (decide ((hdlE (rootN 5 0 493) 1) = 0)) && (decide (((findS (rootN 5 0 493) (hdlB (rootN 5 0 493) 1)).1) = 1))) rfl (by decide) (fun h5 => ?_) (fun h5 => ?_) ?_
  ·
    have ⟨h6, h7⟩ := and_t h5
    have h8 := of_decide_eq_true h6
    have h9 := of_decide_eq_true h7
    refine Rg.pure (d := 84) (op := .move (.tmp 5)) (g := some (6, true)) (v := .int .u32 ((findS (rootN 5 0 493) (hdlB (rootN 5 0 493) 1)).2)) (by kernel_rfl) (by kernel_rfl) (pv_move rfl) ?_
    refine Rg.pure (d := 85) (op := .binOp .eql 45 (.tmp 84) (.const (.int .u32 0)) 45) (g := some (6, true)) (v := .bool (decide (((findS (rootN 5 0 493) (hdlB (rootN 5 0 493) 1)).2) = 0))) (by kernel_rfl) (by kernel_rfl) (pv_eql rfl rfl) ?_
    refine Rg.pure (d := 86) (op := .pick (.tmp 83) (.tmp 85) (.const (.bool false))) (g := none) (v := .bool (decide (((findS (rootN 5 0 493) (hdlB (rootN 5 0 493) 1)).2) = 0))) (by kernel_rfl) (by kernel_rfl) (pv_pick_t rfl rfl) ?_
    refine Rg.fin rfl (At.mid [0, 1, 2, 3, 4, 5, 6] (.cons (and_of_t h5 rfl) (.cons (rfl) (.cons (rfl) (.cons (rfl) (.cons (rfl) (.cons (rfl) (.cons (rfl) (.cons (rfl) (.cons (rfl) (.nil _)))))))))) rfl (by decide))
  ·
    refine Rg.skips 9 (by kernel_rfl) ?_
    refine Rg.pure (d := 86) (op := .pick (.tmp 83) (.tmp 85) (.const (.bool false))) (g := none) (v := .bool false) (by kernel_rfl) (by kernel_rfl) (pv_pick_f rfl rfl) ?_
    refine Rg.fin rfl (At.mid [0, 1, 2, 3, 4, 5, 6] (.cons (and_of_f h5 rfl) (.cons (rfl) (.cons (rfl) (.cons (rfl) (.cons (rfl) (.cons (rfl) (.cons (rfl) (.cons (rfl) (.cons (rfl) (.nil _)))))))))) rfl (by decide))
  refine Rg.pure (d := 87) (op := .move (.tmp 86)) (g := none) (v := .bool (((decide ((hdlE (rootN 5 0 493) 1) = 0)) && (decide (((findS (rootN 5 0 493) (hdlB (rootN 5 0 493) 1)).1) = 1))) && (decide (((findS (rootN 5 0 493) (hdlB (rootN 5 0 493) 1)).2) = 0)))) (by kernel_rfl) (by kernel_rfl) (pv_move rfl) ?_
  refine Rg.split 14 [(90, .bool ((((decide ((hdlE (rootN 5 0 493) 1) = 0)) && (decide (((findS (rootN 5 0 493) (hdlB (rootN 5 0 493) 1)).1) = 1))) && (decide (((findS (rootN 5 0 493) (hdlB (rootN 5 0 493) 1)).2) = 0))) && (decide (((findS (rootN 5 0 493) ([] : List Int)).2) = 10001)))), (0, .bool false), (1, .pointer (some ⟨b2, 0, none⟩)), (9, .int .i64 0), (11, .int .u32 ((findS (rootN 5 0 493) (hB 1 7)).2)), (13, .int .i64 (hdlE (rootN 5 0 493) 2)), (14, .pointer (some ⟨b12, 0, none⟩)), (15, .bool (thereS (rootN 5 0 493) 1))] [blk b12 (.cells (attrsS (rootN 5 0 493) 1) 38 (0, 0)), own 5 1 p9 ((hdlB (rootN 5 0 493) 2).length) c10 (bv (hdlB (rootN 5 0 493) 2)), own 5 1 p6 16 c7 (bv (hB 1 7)), own 5 1 p3 ((hdlB (rootN 5 0 493) 1).length) c4 (bv (hdlB (rootN 5 0 493) 1)), blk b2 (.cells #[.slice (some ⟨b1, 0, none⟩) 2 2, .int .u32 1] 25 (0, 0)), blk b1 (.cells (rootC 5 0 4096) 44 (0, 0)), base w (Low w)] (s := 87) (g := ((decide ((hdlE (rootN 5 0 493) 1) = 0)) && (decide (((findS (rootN 5 0 493) (hdlB (rootN 5 0 493) 1)).1) = 1))) && (decide (((findS (rootN 5 0 493) (hdlB (rootN 5 0 493) 1)).2) = 0))) rfl (by decide) (fun h10 => ?_) (fun h10 => ?_) ?_
  ·
    have ⟨h11, h12⟩ := and_t h10
    have ⟨h13, h14⟩ := and_t h11
    have h15 := of_decide_eq_true h13
    have h16 := of_decide_eq_true h14
    have h17 := of_decide_eq_true h12
    refine Rg.pure (d := 88) (op := .move (.tmp 7)) (g := some (10, true)) (v := .int .u32 ((findS (rootN 5 0 493) ([] : List Int)).2)) (by kernel_rfl) (by kernel_rfl) (pv_move rfl) ?_
    refine Rg.pure (d := 89) (op := .binOp .eql 45 (.tmp 88) (.const (.int .u32 10001)) 45) (g := some (10, true)) (v := .bool (decide (((findS (rootN 5 0 493) ([] : List Int)).2) = 10001))) (by kernel_rfl) (by kernel_rfl) (pv_eql rfl rfl) ?_
    refine Rg.pure (d := 90) (op := .pick (.tmp 87) (.tmp 89) (.const (.bool false))) (g := none) (v := .bool (decide (((findS (rootN 5 0 493) ([] : List Int)).2) = 10001))) (by kernel_rfl) (by kernel_rfl) (pv_pick_t rfl rfl) ?_
    refine Rg.fin rfl (At.mid [0, 1, 2, 3, 4, 5, 6] (.cons (and_of_t h10 rfl) (.cons (rfl) (.cons (rfl) (.cons (rfl) (.cons (rfl) (.cons (rfl) (.cons (rfl) (.cons (rfl) (.nil _))))))))) rfl (by decide))
  ·
    refine Rg.skips 13 (by kernel_rfl) ?_
    refine Rg.pure (d := 90) (op := .pick (.tmp 87) (.tmp 89) (.const (.bool false))) (g := none) (v := .bool false) (by kernel_rfl) (by kernel_rfl) (pv_pick_f rfl rfl) ?_
    refine Rg.fin rfl (At.mid [0, 1, 2, 3, 4, 5, 6] (.cons (and_of_f h10 rfl) (.cons (rfl) (.cons (rfl) (.cons (rfl) (.cons (rfl) (.cons (rfl) (.cons (rfl) (.cons (rfl) (.nil _))))))))) rfl (by decide))
  refine Rg.pure (d := 91) (op := .move (.tmp 90)) (g := none) (v := .bool ((((decide ((hdlE (rootN 5 0 493) 1) = 0)) && (decide (((findS (rootN 5 0 493) (hdlB (rootN 5 0 493) 1)).1) = 1))) && (decide (((findS (rootN 5 0 493) (hdlB (rootN 5 0 493) 1)).2) = 0))) && (decide (((findS (rootN 5 0 493) ([] : List Int)).2) = 10001)))) (by kernel_rfl) (by kernel_rfl) (pv_move rfl) ?_
  refine Rg.split 18 [(94, .bool (((((decide ((hdlE (rootN 5 0 493) 1) = 0)) && (decide (((findS (rootN 5 0 493) (hdlB (rootN 5 0 493) 1)).1) = 1))) && (decide (((findS (rootN 5 0 493) (hdlB (rootN 5 0 493) 1)).2) = 0))) && (decide (((findS (rootN 5 0 493) ([] : List Int)).2) = 10001))) && true)), (0, .bool false), (1, .pointer (some ⟨b2, 0, none⟩)), (11, .int .u32 ((findS (rootN 5 0 493) (hB 1 7)).2)), (13, .int .i64 (hdlE (rootN 5 0 493) 2)), (14, .pointer (some ⟨b12, 0, none⟩)), (15, .bool (thereS (rootN 5 0 493) 1))] [blk b12 (.cells (attrsS (rootN 5 0 493) 1) 38 (0, 0)), own 5 1 p9 ((hdlB (rootN 5 0 493) 2).length) c10 (bv (hdlB (rootN 5 0 493) 2)), own 5 1 p6 16 c7 (bv (hB 1 7)), own 5 1 p3 ((hdlB (rootN 5 0 493) 1).length) c4 (bv (hdlB (rootN 5 0 493) 1)), blk b2 (.cells #[.slice (some ⟨b1, 0, none⟩) 2 2, .int .u32 1] 25 (0, 0)), blk b1 (.cells (rootC 5 0 4096) 44 (0, 0)), base w (Low w)] (s := 91) (g := (((decide ((hdlE (rootN 5 0 493) 1) = 0)) && (decide (((findS (rootN 5 0 493) (hdlB (rootN 5 0 493) 1)).1) = 1))) && (decide (((findS (rootN 5 0 493) (hdlB (rootN 5 0 493) 1)).2) = 0))) && (decide (((findS (rootN 5 0 493) ([] : List Int)).2) = 10001))) rfl (by decide) (fun h18 => ?_) (fun h18 => ?_) ?_
  ·
    have ⟨h19, h20⟩ := and_t h18
    have ⟨h21, h22⟩ := and_t h19
    have ⟨h23, h24⟩ := and_t h21
    have h25 := of_decide_eq_true h23
    have h26 := of_decide_eq_true h24
    have h27 := of_decide_eq_true h22
    have h28 := of_decide_eq_true h20
    refine Rg.pure (d := 92) (op := .move (.tmp 9)) (g := some (14, true)) (v := .int .i64 0) (by kernel_rfl) (by kernel_rfl) (pv_move rfl) ?_
    refine Rg.pure (d := 93) (op := .binOp .eql 30 (.tmp 92) (.const (.int .i64 0)) 30) (g := some (14, true)) (v := .bool (decide (0 = 0))) (by kernel_rfl) (by kernel_rfl) (pv_eql rfl rfl) ?_
    refine Rg.know 93 (b := decide (0 = 0)) (c := true) rfl (by decide) ?_
    refine Rg.pure (d := 94) (op := .pick (.tmp 91) (.tmp 93) (.const (.bool false))) (g := none) (v := .bool true) (by kernel_rfl) (by kernel_rfl) (pv_pick_t rfl rfl) ?_
    refine Rg.fin rfl (At.mid [0, 1, 2, 3, 4, 5, 6] (.cons (and_of_t h18 rfl) (.cons (rfl) (.cons (rfl) (.cons (rfl) (.cons (rfl) (.cons (rfl) (.cons (rfl) (.nil _)))))))) rfl (by decide))
  ·
    refine Rg.skips 17 (by kernel_rfl) ?_
    refine Rg.pure (d := 94) (op := .pick (.tmp 91) (.tmp 93) (.const (.bool false))) (g := none) (v := .bool false) (by kernel_rfl) (by kernel_rfl) (pv_pick_f rfl rfl) ?_
    refine Rg.fin rfl (At.mid [0, 1, 2, 3, 4, 5, 6] (.cons (and_of_f h18 rfl) (.cons (rfl) (.cons (rfl) (.cons (rfl) (.cons (rfl) (.cons (rfl) (.cons (rfl) (.nil _)))))))) rfl (by decide))
  refine Rg.pure (d := 95) (op := .move (.tmp 94)) (g := none) (v := .bool (((((decide ((hdlE (rootN 5 0 493) 1) = 0)) && (decide (((findS (rootN 5 0 493) (hdlB (rootN 5 0 493) 1)).1) = 1))) && (decide (((findS (rootN 5 0 493) (hdlB (rootN 5 0 493) 1)).2) = 0))) && (decide (((findS (rootN 5 0 493) ([] : List Int)).2) = 10001))) && true)) (by kernel_rfl) (by kernel_rfl) (pv_move rfl) ?_
  refine Rg.split 22 [(98, .bool ((((((decide ((hdlE (rootN 5 0 493) 1) = 0)) && (decide (((findS (rootN 5 0 493) (hdlB (rootN 5 0 493) 1)).1) = 1))) && (decide (((findS (rootN 5 0 493) (hdlB (rootN 5 0 493) 1)).2) = 0))) && (decide (((findS (rootN 5 0 493) ([] : List Int)).2) = 10001))) && true) && (decide (((findS (rootN 5 0 493) (hB 1 7)).2) = 70)))), (0, .bool false), (1, .pointer (some ⟨b2, 0, none⟩)), (13, .int .i64 (hdlE (rootN 5 0 493) 2)), (14, .pointer (some ⟨b12, 0, none⟩)), (15, .bool (thereS (rootN 5 0 493) 1))] [blk b12 (.cells (attrsS (rootN 5 0 493) 1) 38 (0, 0)), own 5 1 p9 ((hdlB (rootN 5 0 493) 2).length) c10 (bv (hdlB (rootN 5 0 493) 2)), own 5 1 p6 16 c7 (bv (hB 1 7)), own 5 1 p3 ((hdlB (rootN 5 0 493) 1).length) c4 (bv (hdlB (rootN 5 0 493) 1)), blk b2 (.cells #[.slice (some ⟨b1, 0, none⟩) 2 2, .int .u32 1] 25 (0, 0)), blk b1 (.cells (rootC 5 0 4096) 44 (0, 0)), base w (Low w)] (s := 95) (g := ((((decide ((hdlE (rootN 5 0 493) 1) = 0)) && (decide (((findS (rootN 5 0 493) (hdlB (rootN 5 0 493) 1)).1) = 1))) && (decide (((findS (rootN 5 0 493) (hdlB (rootN 5 0 493) 1)).2) = 0))) && (decide (((findS (rootN 5 0 493) ([] : List Int)).2) = 10001))) && true) rfl (by decide) (fun h29 => ?_) (fun h29 => ?_) ?_
  ·
    have ⟨h30, h31⟩ := and_t h29
    have ⟨h32, h33⟩ := and_t h30
    have ⟨h34, h35⟩ := and_t h32
    have ⟨h36, h37⟩ := and_t h34
    have h38 := of_decide_eq_true h36
    have h39 := of_decide_eq_true h37
    have h40 := of_decide_eq_true h35
    have h41 := of_decide_eq_true h33
    refine Rg.pure (d := 96) (op := .move (.tmp 11)) (g := some (18, true)) (v := .int .u32 ((findS (rootN 5 0 493) (hB 1 7)).2)) (by kernel_rfl) (by kernel_rfl) (pv_move rfl) ?_
    refine Rg.pure (d := 97) (op := .binOp .eql 45 (.tmp 96) (.const (.int .u32 70)) 45) (g := some (18, true)) (v := .bool (decide (((findS (rootN 5 0 493) (hB 1 7)).2) = 70))) (by kernel_rfl) (by kernel_rfl) (pv_eql rfl rfl) ?_
    refine Rg.pure (d := 98) (op := .pick (.tmp 95) (.tmp 97) (.const (.bool false))) (g := none) (v := .bool (decide (((findS (rootN 5 0 493) (hB 1 7)).2) = 70))) (by kernel_rfl) (by kernel_rfl) (pv_pick_t rfl rfl) ?_
    refine Rg.fin rfl (At.mid [0, 1, 2, 3, 4, 5, 6] (.cons (and_of_t h29 rfl) (.cons (rfl) (.cons (rfl) (.cons (rfl) (.cons (rfl) (.cons (rfl) (.nil _))))))) rfl (by decide))
  ·
    refine Rg.skips 21 (by kernel_rfl) ?_
    refine Rg.pure (d := 98) (op := .pick (.tmp 95) (.tmp 97) (.const (.bool false))) (g := none) (v := .bool false) (by kernel_rfl) (by kernel_rfl) (pv_pick_f rfl rfl) ?_
    refine Rg.fin rfl (At.mid [0, 1, 2, 3, 4, 5, 6] (.cons (and_of_f h29 rfl) (.cons (rfl) (.cons (rfl) (.cons (rfl) (.cons (rfl) (.cons (rfl) (.nil _))))))) rfl (by decide))
  refine Rg.pure (d := 99) (op := .move (.tmp 98)) (g := none) (v := .bool ((((((decide ((hdlE (rootN 5 0 493) 1) = 0)) && (decide (((findS (rootN 5 0 493) (hdlB (rootN 5 0 493) 1)).1) = 1))) && (decide (((findS (rootN 5 0 493) (hdlB (rootN 5 0 493) 1)).2) = 0))) && (decide (((findS (rootN 5 0 493) ([] : List Int)).2) = 10001))) && true) && (decide (((findS (rootN 5 0 493) (hB 1 7)).2) = 70)))) (by kernel_rfl) (by kernel_rfl) (pv_move rfl) ?_
  refine Rg.split 26 [(102, .bool (((((((decide ((hdlE (rootN 5 0 493) 1) = 0)) && (decide (((findS (rootN 5 0 493) (hdlB (rootN 5 0 493) 1)).1) = 1))) && (decide (((findS (rootN 5 0 493) (hdlB (rootN 5 0 493) 1)).2) = 0))) && (decide (((findS (rootN 5 0 493) ([] : List Int)).2) = 10001))) && true) && (decide (((findS (rootN 5 0 493) (hB 1 7)).2) = 70))) && (decide ((hdlE (rootN 5 0 493) 2) = 1)))), (0, .bool false), (1, .pointer (some ⟨b2, 0, none⟩)), (14, .pointer (some ⟨b12, 0, none⟩)), (15, .bool (thereS (rootN 5 0 493) 1))] [blk b12 (.cells (attrsS (rootN 5 0 493) 1) 38 (0, 0)), own 5 1 p9 ((hdlB (rootN 5 0 493) 2).length) c10 (bv (hdlB (rootN 5 0 493) 2)), own 5 1 p6 16 c7 (bv (hB 1 7)), own 5 1 p3 ((hdlB (rootN 5 0 493) 1).length) c4 (bv (hdlB (rootN 5 0 493) 1)), blk b2 (.cells #[.slice (some ⟨b1, 0, none⟩) 2 2, .int .u32 1] 25 (0, 0)), blk b1 (.cells (rootC 5 0 4096) 44 (0, 0)), base w (Low w)] (s := 99) (g := (((((decide ((hdlE (rootN 5 0 493) 1) = 0)) && (decide (((findS (rootN 5 0 493) (hdlB (rootN 5 0 493) 1)).1) = 1))) && (decide (((findS (rootN 5 0 493) (hdlB (rootN 5 0 493) 1)).2) = 0))) && (decide (((findS (rootN 5 0 493) ([] : List Int)).2) = 10001))) && true) && (decide (((findS (rootN 5 0 493) (hB 1 7)).2) = 70))) rfl (by decide) (fun h42 => ?_) (fun h42 => ?_) ?_
  ·
    have ⟨h43, h44⟩ := and_t h42
    have ⟨h45, h46⟩ := and_t h43
    have ⟨h47, h48⟩ := and_t h45
    have ⟨h49, h50⟩ := and_t h47
    have ⟨h51, h52⟩ := and_t h49
    have h53 := of_decide_eq_true h51
    have h54 := of_decide_eq_true h52
    have h55 := of_decide_eq_true h50
    have h56 := of_decide_eq_true h48
    have h57 := of_decide_eq_true h44
    refine Rg.pure (d := 100) (op := .move (.tmp 13)) (g := some (22, true)) (v := .int .i64 (hdlE (rootN 5 0 493) 2)) (by kernel_rfl) (by kernel_rfl) (pv_move rfl) ?_
    refine Rg.pure (d := 101) (op := .binOp .eql 30 (.tmp 100) (.const (.int .i64 1)) 30) (g := some (22, true)) (v := .bool (decide ((hdlE (rootN 5 0 493) 2) = 1))) (by kernel_rfl) (by kernel_rfl) (pv_eql rfl rfl) ?_
    refine Rg.pure (d := 102) (op := .pick (.tmp 99) (.tmp 101) (.const (.bool false))) (g := none) (v := .bool (decide ((hdlE (rootN 5 0 493) 2) = 1))) (by kernel_rfl) (by kernel_rfl) (pv_pick_t rfl rfl) ?_
    refine Rg.fin rfl (At.mid [0, 1, 2, 3, 4, 5, 6] (.cons (and_of_t h42 rfl) (.cons (rfl) (.cons (rfl) (.cons (rfl) (.cons (rfl) (.nil _)))))) rfl (by decide))
  ·
    refine Rg.skips 25 (by kernel_rfl) ?_
    refine Rg.pure (d := 102) (op := .pick (.tmp 99) (.tmp 101) (.const (.bool false))) (g := none) (v := .bool false) (by kernel_rfl) (by kernel_rfl) (pv_pick_f rfl rfl) ?_
    refine Rg.fin rfl (At.mid [0, 1, 2, 3, 4, 5, 6] (.cons (and_of_f h42 rfl) (.cons (rfl) (.cons (rfl) (.cons (rfl) (.cons (rfl) (.nil _)))))) rfl (by decide))
  refine Rg.pure (d := 103) (op := .move (.tmp 102)) (g := none) (v := .bool (((((((decide ((hdlE (rootN 5 0 493) 1) = 0)) && (decide (((findS (rootN 5 0 493) (hdlB (rootN 5 0 493) 1)).1) = 1))) && (decide (((findS (rootN 5 0 493) (hdlB (rootN 5 0 493) 1)).2) = 0))) && (decide (((findS (rootN 5 0 493) ([] : List Int)).2) = 10001))) && true) && (decide (((findS (rootN 5 0 493) (hB 1 7)).2) = 70))) && (decide ((hdlE (rootN 5 0 493) 2) = 1)))) (by kernel_rfl) (by kernel_rfl) (pv_move rfl) ?_
  refine Rg.split 29 [(105, .bool ((((((((decide ((hdlE (rootN 5 0 493) 1) = 0)) && (decide (((findS (rootN 5 0 493) (hdlB (rootN 5 0 493) 1)).1) = 1))) && (decide (((findS (rootN 5 0 493) (hdlB (rootN 5 0 493) 1)).2) = 0))) && (decide (((findS (rootN 5 0 493) ([] : List Int)).2) = 10001))) && true) && (decide (((findS (rootN 5 0 493) (hB 1 7)).2) = 70))) && (decide ((hdlE (rootN 5 0 493) 2) = 1))) && (thereS (rootN 5 0 493) 1))), (0, .bool false), (1, .pointer (some ⟨b2, 0, none⟩)), (14, .pointer (some ⟨b12, 0, none⟩))] [blk b12 (.cells (attrsS (rootN 5 0 493) 1) 38 (0, 0)), own 5 1 p9 ((hdlB (rootN 5 0 493) 2).length) c10 (bv (hdlB (rootN 5 0 493) 2)), own 5 1 p6 16 c7 (bv (hB 1 7)), own 5 1 p3 ((hdlB (rootN 5 0 493) 1).length) c4 (bv (hdlB (rootN 5 0 493) 1)), blk b2 (.cells #[.slice (some ⟨b1, 0, none⟩) 2 2, .int .u32 1] 25 (0, 0)), blk b1 (.cells (rootC 5 0 4096) 44 (0, 0)), base w (Low w)] (s := 103) (g := ((((((decide ((hdlE (rootN 5 0 493) 1) = 0)) && (decide (((findS (rootN 5 0 493) (hdlB (rootN 5 0 493) 1)).1) = 1))) && (decide (((findS (rootN 5 0 493) (hdlB (rootN 5 0 493) 1)).2) = 0))) && (decide (((findS (rootN 5 0 493) ([] : List Int)).2) = 10001))) && true) && (decide (((findS (rootN 5 0 493) (hB 1 7)).2) = 70))) && (decide ((hdlE (rootN 5 0 493) 2) = 1))) rfl (by decide) (fun h58 => ?_) (fun h58 => ?_) ?_
  ·
    have ⟨h59, h60⟩ := and_t h58
    have ⟨h61, h62⟩ := and_t h59
    have ⟨h63, h64⟩ := and_t h61
    have ⟨h65, h66⟩ := and_t h63
    have ⟨h67, h68⟩ := and_t h65
    have ⟨h69, h70⟩ := and_t h67
    have h71 := of_decide_eq_true h69
    have h72 := of_decide_eq_true h70
    have h73 := of_decide_eq_true h68
    have h74 := of_decide_eq_true h66
    have h75 := of_decide_eq_true h62
    have h76 := of_decide_eq_true h60
    refine Rg.pure (d := 104) (op := .move (.tmp 15)) (g := some (26, true)) (v := .bool (thereS (rootN 5 0 493) 1)) (by kernel_rfl) (by kernel_rfl) (pv_move rfl) ?_
    refine Rg.pure (d := 105) (op := .pick (.tmp 103) (.tmp 104) (.const (.bool false))) (g := none) (v := .bool (thereS (rootN 5 0 493) 1)) (by kernel_rfl) (by kernel_rfl) (pv_pick_t rfl rfl) ?_
    refine Rg.fin rfl (At.mid [0, 1, 2, 3, 4, 5, 6] (.cons (and_of_t h58 rfl) (.cons (rfl) (.cons (rfl) (.cons (rfl) (.nil _))))) rfl (by decide))
  ·
    refine Rg.skips 28 (by kernel_rfl) ?_
    refine Rg.pure (d := 105) (op := .pick (.tmp 103) (.tmp 104) (.const (.bool false))) (g := none) (v := .bool false) (by kernel_rfl) (by kernel_rfl) (pv_pick_f rfl rfl) ?_
    refine Rg.fin rfl (At.mid [0, 1, 2, 3, 4, 5, 6] (.cons (and_of_f h58 rfl) (.cons (rfl) (.cons (rfl) (.cons (rfl) (.nil _))))) rfl (by decide))
  refine Rg.pure (d := 106) (op := .move (.tmp 105)) (g := none) (v := .bool ((((((((decide ((hdlE (rootN 5 0 493) 1) = 0)) && (decide (((findS (rootN 5 0 493) (hdlB (rootN 5 0 493) 1)).1) = 1))) && (decide (((findS (rootN 5 0 493) (hdlB (rootN 5 0 493) 1)).2) = 0))) && (decide (((findS (rootN 5 0 493) ([] : List Int)).2) = 10001))) && true) && (decide (((findS (rootN 5 0 493) (hB 1 7)).2) = 70))) && (decide ((hdlE (rootN 5 0 493) 2) = 1))) && (thereS (rootN 5 0 493) 1))) (by kernel_rfl) (by kernel_rfl) (pv_move rfl) ?_
  refine Rg.split 34 [(110, .bool (((((((((decide ((hdlE (rootN 5 0 493) 1) = 0)) && (decide (((findS (rootN 5 0 493) (hdlB (rootN 5 0 493) 1)).1) = 1))) && (decide (((findS (rootN 5 0 493) (hdlB (rootN 5 0 493) 1)).2) = 0))) && (decide (((findS (rootN 5 0 493) ([] : List Int)).2) = 10001))) && true) && (decide (((findS (rootN 5 0 493) (hB 1 7)).2) = 70))) && (decide ((hdlE (rootN 5 0 493) 2) = 1))) && (thereS (rootN 5 0 493) 1)) && (decide ((attrLinks (rootN 5 0 493) 1) = 2)))), (0, .bool false), (1, .pointer (some ⟨b2, 0, none⟩)), (14, .pointer (some ⟨b12, 0, none⟩))] [blk b12 (.cells (attrsS (rootN 5 0 493) 1) 38 (0, 0)), own 5 1 p9 ((hdlB (rootN 5 0 493) 2).length) c10 (bv (hdlB (rootN 5 0 493) 2)), own 5 1 p6 16 c7 (bv (hB 1 7)), own 5 1 p3 ((hdlB (rootN 5 0 493) 1).length) c4 (bv (hdlB (rootN 5 0 493) 1)), blk b2 (.cells #[.slice (some ⟨b1, 0, none⟩) 2 2, .int .u32 1] 25 (0, 0)), blk b1 (.cells (rootC 5 0 4096) 44 (0, 0)), base w (Low w)] (s := 106) (g := (((((((decide ((hdlE (rootN 5 0 493) 1) = 0)) && (decide (((findS (rootN 5 0 493) (hdlB (rootN 5 0 493) 1)).1) = 1))) && (decide (((findS (rootN 5 0 493) (hdlB (rootN 5 0 493) 1)).2) = 0))) && (decide (((findS (rootN 5 0 493) ([] : List Int)).2) = 10001))) && true) && (decide (((findS (rootN 5 0 493) (hB 1 7)).2) = 70))) && (decide ((hdlE (rootN 5 0 493) 2) = 1))) && (thereS (rootN 5 0 493) 1)) rfl (by decide) (fun h77 => ?_) (fun h77 => ?_) ?_
  ·
    have ⟨h78, h79⟩ := and_t h77
    have ⟨h80, h81⟩ := and_t h78
    have ⟨h82, h83⟩ := and_t h80
    have ⟨h84, h85⟩ := and_t h82
    have ⟨h86, h87⟩ := and_t h84
    have ⟨h88, h89⟩ := and_t h86
    have ⟨h90, h91⟩ := and_t h88
    have h92 := of_decide_eq_true h90
    have h93 := of_decide_eq_true h91
    have h94 := of_decide_eq_true h89
    have h95 := of_decide_eq_true h87
    have h96 := of_decide_eq_true h83
    have h97 := of_decide_eq_true h81
    have ⟨h98, h99, h100⟩ := thereS_t h79
    refine Rg.pure (d := 107) (op := .fieldAddr 38 (.tmp 14) 2) (g := some (29, true)) (v := .pointer (some ⟨b12, 0 + 2, none⟩)) (by kernel_rfl) (by kernel_rfl) (pv_fieldAddr rfl (n := 2) (by kernel_rfl)) ?_
    refine Rg.pure (d := 108) (op := .load 23 (.tmp 107)) (g := some (29, true)) (v := .int .u32 (attrLinks (rootN 5 0 493) 1)) (by kernel_rfl) (by kernel_rfl) (pv_load_blk 0 rfl rfl (by kernel_rfl) (attrs_2 _ _)) ?_
    refine Rg.pure (d := 109) (op := .binOp .eql 23 (.tmp 108) (.const (.int .u32 2)) 23) (g := some (29, true)) (v := .bool (decide ((attrLinks (rootN 5 0 493) 1) = 2))) (by kernel_rfl) (by kernel_rfl) (pv_eql rfl rfl) ?_
    refine Rg.pure (d := 110) (op := .pick (.tmp 106) (.tmp 109) (.const (.bool false))) (g := none) (v := .bool (decide ((attrLinks (rootN 5 0 493) 1) = 2))) (by kernel_rfl) (by kernel_rfl) (pv_pick_t rfl rfl) ?_
    refine Rg.fin rfl (At.mid [0, 1, 2, 3, 4, 5, 6] (.cons (and_of_t h77 rfl) (.cons (rfl) (.cons (rfl) (.cons (rfl) (.nil _))))) rfl (by decide))
  ·
    refine Rg.skips 33 (by kernel_rfl) ?_
    refine Rg.pure (d := 110) (op := .pick (.tmp 106) (.tmp 109) (.const (.bool false))) (g := none) (v := .bool false) (by kernel_rfl) (by kernel_rfl) (pv_pick_f rfl rfl) ?_
    refine Rg.fin rfl (At.mid [0, 1, 2, 3, 4, 5, 6] (.cons (and_of_f h77 rfl) (.cons (rfl) (.cons (rfl) (.cons (rfl) (.nil _))))) rfl (by decide))
  refine Rg.pure (d := 111) (op := .move (.tmp 110)) (g := none) (v := .bool (((((((((decide ((hdlE (rootN 5 0 493) 1) = 0)) && (decide (((findS (rootN 5 0 493) (hdlB (rootN 5 0 493) 1)).1) = 1))) && (decide (((findS (rootN 5 0 493) (hdlB (rootN 5 0 493) 1)).2) = 0))) && (decide (((findS (rootN 5 0 493) ([] : List Int)).2) = 10001))) && true) && (decide (((findS (rootN 5 0 493) (hB 1 7)).2) = 70))) && (decide ((hdlE (rootN 5 0 493) 2) = 1))) && (thereS (rootN 5 0 493) 1)) && (decide ((attrLinks (rootN 5 0 493) 1) = 2)))) (by kernel_rfl) (by kernel_rfl) (pv_move rfl) ?_
  refine Rg.split 39 [(115, .bool ((((((((((decide ((hdlE (rootN 5 0 493) 1) = 0)) && (decide (((findS (rootN 5 0 493) (hdlB (rootN 5 0 493) 1)).1) = 1))) && (decide (((findS (rootN 5 0 493) (hdlB (rootN 5 0 493) 1)).2) = 0))) && (decide (((findS (rootN 5 0 493) ([] : List Int)).2) = 10001))) && true) && (decide (((findS (rootN 5 0 493) (hB 1 7)).2) = 70))) && (decide ((hdlE (rootN 5 0 493) 2) = 1))) && (thereS (rootN 5 0 493) 1)) && (decide ((attrLinks (rootN 5 0 493) 1) = 2))) && (decide ((attrSize (rootN 5 0 493) 1) = 0)))), (0, .bool false), (1, .pointer (some ⟨b2, 0, none⟩))] [blk b12 (.cells (attrsS (rootN 5 0 493) 1) 38 (0, 0)), own 5 1 p9 ((hdlB (rootN 5 0 493) 2).length) c10 (bv (hdlB (rootN 5 0 493) 2)), own 5 1 p6 16 c7 (bv (hB 1 7)), own 5 1 p3 ((hdlB (rootN 5 0 493) 1).length) c4 (bv (hdlB (rootN 5 0 493) 1)), blk b2 (.cells #[.slice (some ⟨b1, 0, none⟩) 2 2, .int .u32 1] 25 (0, 0)), blk b1 (.cells (rootC 5 0 4096) 44 (0, 0)), base w (Low w)] (s := 111) (g := ((((((((decide ((hdlE (rootN 5 0 493) 1) = 0)) && (decide (((findS (rootN 5 0 493) (hdlB (rootN 5 0 493) 1)).1) = 1))) && (decide (((findS (rootN 5 0 493) (hdlB (rootN 5 0 493) 1)).2) = 0))) && (decide (((findS (rootN 5 0 493) ([] : List Int)).2) = 10001))) && true) && (decide (((findS (rootN 5 0 493) (hB 1 7)).2) = 70))) && (decide ((hdlE (rootN 5 0 493) 2) = 1))) && (thereS (rootN 5 0 493) 1)) && (decide ((attrLinks (rootN 5 0 493) 1) = 2))) rfl (by decide) (fun h101 => ?_) (fun h101 => ?_) ?_
  ·
    have ⟨h102, h103⟩ := and_t h101
    have ⟨h104, h105⟩ := and_t h102
    have ⟨h106, h107⟩ := and_t h104
    have ⟨h108, h109⟩ := and_t h106
    have ⟨h110, h111⟩ := and_t h108
    have ⟨h112, h113⟩ := and_t h110
    have ⟨h114, h115⟩ := and_t h112
    have ⟨h116, h117⟩ := and_t h114
    have h118 := of_decide_eq_true h116
    have h119 := of_decide_eq_true h117
    have h120 := of_decide_eq_true h115
    have h121 := of_decide_eq_true h113
    have h122 := of_decide_eq_true h109
    have h123 := of_decide_eq_true h107
    have ⟨h124, h125, h126⟩ := thereS_t h105
    have h127 := of_decide_eq_true h103
    refine Rg.pure (d := 112) (op := .fieldAddr 38 (.tmp 14) 5) (g := some (34, true)) (v := .pointer (some ⟨b12, 0 + 5, none⟩)) (by kernel_rfl) (by kernel_rfl) (pv_fieldAddr rfl (n := 5) (by kernel_rfl)) ?_
    refine Rg.pure (d := 113) (op := .load 34 (.tmp 112)) (g := some (34, true)) (v := .int .u64 (attrSize (rootN 5 0 493) 1)) (by kernel_rfl) (by kernel_rfl) (pv_load_blk 0 rfl rfl (by kernel_rfl) (attrs_5 _ _)) ?_
    refine Rg.pure (d := 114) (op := .binOp .eql 34 (.tmp 113) (.const (.int .u64 0)) 34) (g := some (34, true)) (v := .bool (decide ((attrSize (rootN 5 0 493) 1) = 0))) (by kernel_rfl) (by kernel_rfl) (pv_eql rfl rfl) ?_
    refine Rg.pure (d := 115) (op := .pick (.tmp 111) (.tmp 114) (.const (.bool false))) (g := none) (v := .bool (decide ((attrSize (rootN 5 0 493) 1) = 0))) (by kernel_rfl) (by kernel_rfl) (pv_pick_t rfl rfl) ?_
    refine Rg.fin rfl (At.mid [0, 1, 2, 3, 4, 5, 6] (.cons (and_of_t h101 rfl) (.cons (rfl) (.cons (rfl) (.nil _)))) rfl (by decide))
  ·
    refine Rg.skips 38 (by kernel_rfl) ?_
    refine Rg.pure (d := 115) (op := .pick (.tmp 111) (.tmp 114) (.const (.bool false))) (g := none) (v := .bool false) (by kernel_rfl) (by kernel_rfl) (pv_pick_f rfl rfl) ?_
    refine Rg.fin rfl (At.mid [0, 1, 2, 3, 4, 5, 6] (.cons (and_of_f h101 rfl) (.cons (rfl) (.cons (rfl) (.nil _)))) rfl (by decide))
  refine Rg.pure (d := 116) (op := .move (.tmp 115)) (g := none) (v := .bool ((((((((((decide ((hdlE (rootN 5 0 493) 1) = 0)) && (decide (((findS (rootN 5 0 493) (hdlB (rootN 5 0 493) 1)).1) = 1))) && (decide (((findS (rootN 5 0 493) (hdlB (rootN 5 0 493) 1)).2) = 0))) && (decide (((findS (rootN 5 0 493) ([] : List Int)).2) = 10001))) && true) && (decide (((findS (rootN 5 0 493) (hB 1 7)).2) = 70))) && (decide ((hdlE (rootN 5 0 493) 2) = 1))) && (thereS (rootN 5 0 493) 1)) && (decide ((attrLinks (rootN 5 0 493) 1) = 2))) && (decide ((attrSize (rootN 5 0 493) 1) = 0)))) (by kernel_rfl) (by kernel_rfl) (pv_move rfl) ?_
  refine Rg.split 44 [(120, .bool (((((((((((decide ((hdlE (rootN 5 0 493) 1) = 0)) && (decide (((findS (rootN 5 0 493) (hdlB (rootN 5 0 493) 1)).1) = 1))) && (decide (((findS (rootN 5 0 493) (hdlB (rootN 5 0 493) 1)).2) = 0))) && (decide (((findS (rootN 5 0 493) ([] : List Int)).2) = 10001))) && true) && (decide (((findS (rootN 5 0 493) (hB 1 7)).2) = 70))) && (decide ((hdlE (rootN 5 0 493) 2) = 1))) && (thereS (rootN 5 0 493) 1)) && (decide ((attrLinks (rootN 5 0 493) 1) = 2))) && (decide ((attrSize (rootN 5 0 493) 1) = 0))) && (decide ((entryS (rootN 5 0 4096) 1 ⟨#[46, 46]⟩) = 1)))), (0, .bool false), (1, .pointer (some ⟨b2, 0, none⟩))] [blk b12 (.cells (attrsS (rootN 5 0 493) 1) 38 (0, 0)), own 5 1 p9 ((hdlB (rootN 5 0 493) 2).length) c10 (bv (hdlB (rootN 5 0 493) 2)), own 5 1 p6 16 c7 (bv (hB 1 7)), own 5 1 p3 ((hdlB (rootN 5 0 493) 1).length) c4 (bv (hdlB (rootN 5 0 493) 1)), blk b2 (.cells #[.slice (some ⟨b1, 0, none⟩) 2 2, .int .u32 1] 25 (0, 0)), blk b1 (.cells (rootC 5 0 4096) 44 (0, 0)), base w (Low w)] (s := 116) (g := (((((((((decide ((hdlE (rootN 5 0 493) 1) = 0)) && (decide (((findS (rootN 5 0 493) (hdlB (rootN 5 0 493) 1)).1) = 1))) && (decide (((findS (rootN 5 0 493) (hdlB (rootN 5 0 493) 1)).2) = 0))) && (decide (((findS (rootN 5 0 493) ([] : List Int)).2) = 10001))) && true) && (decide (((findS (rootN 5 0 493) (hB 1 7)).2) = 70))) && (decide ((hdlE (rootN 5 0 493) 2) = 1))) && (thereS (rootN 5 0 493) 1)) && (decide ((attrLinks (rootN 5 0 493) 1) = 2))) && (decide ((attrSize (rootN 5 0 493) 1) = 0))) rfl (by decide) (fun h128 => ?_) (fun h128 => ?_) ?_
  ·
    have ⟨h129, h130⟩ := and_t h128
    have ⟨h131, h132⟩ := and_t h129
    have ⟨h133, h134⟩ := and_t h131
    have ⟨h135, h136⟩ := and_t h133
    have ⟨h137, h138⟩ := and_t h135
    have ⟨h139, h140⟩ := and_t h137
    have ⟨h141, h142⟩ := and_t h139
    have ⟨h143, h144⟩ := and_t h141
    have ⟨h145, h146⟩ := and_t h143
    have h147 := of_decide_eq_true h145
    have h148 := of_decide_eq_true h146
    have h149 := of_decide_eq_true h144
    have h150 := of_decide_eq_true h142
    have h151 := of_decide_eq_true h138
    have h152 := of_decide_eq_true h136
    have ⟨h153, h154, h155⟩ := thereS_t h134
    have h156 := of_decide_eq_true h132
    have h157 := of_decide_eq_true h130
    refine Rg.pure (d := 117) (op := .load 25 (.tmp 1)) (g := some (39, true)) (v := .agg #[.slice (some ⟨b1, 0, none⟩) 2 2, .int .u32 1]) (by kernel_rfl) (by kernel_rfl) (pv_load_blk_whole 4 rfl rfl (by kernel_rfl) (by kernel_rfl)) ?_
    refine rg_call (d := some 118) (f := 21) (xs := #[.tmp 117, .const (.int .i64 1), .const (.string ⟨#[46, 46]⟩)]) (ts := #[25, 3, 9]) (g := some (39, true)) (v := .int .i64 (entryS (rootN 5 0 4096) 1 ⟨#[46, 46]⟩)) (by kernel_rfl) (by kernel_rfl) (by kernel_rfl) rfl (fun w hw => Entry_calls (rootN_here hw 5 rfl) rootN_wf) ?_
    refine Rg.pure (d := 119) (op := .binOp .eql 3 (.tmp 118) (.const (.int .i64 1)) 3) (g := some (39, true)) (v := .bool (decide ((entryS (rootN 5 0 4096) 1 ⟨#[46, 46]⟩) = 1))) (by kernel_rfl) (by kernel_rfl) (pv_eql rfl rfl) ?_
    refine Rg.pure (d := 120) (op := .pick (.tmp 116) (.tmp 119) (.const (.bool false))) (g := none) (v := .bool (decide ((entryS (rootN 5 0 4096) 1 ⟨#[46, 46]⟩) = 1))) (by kernel_rfl) (by kernel_rfl) (pv_pick_t rfl rfl) ?_
    refine Rg.fin rfl (At.mid [0, 1, 2, 3, 4, 5, 6] (.cons (and_of_t h128 rfl) (.cons (rfl) (.cons (rfl) (.nil _)))) rfl (by decide))
  ·
    refine Rg.skips 43 (by kernel_rfl) ?_
    refine Rg.pure (d := 120) (op := .pick (.tmp 116) (.tmp 119) (.const (.bool false))) (g := none) (v := .bool false) (by kernel_rfl) (by kernel_rfl) (pv_pick_f rfl rfl) ?_
    refine Rg.fin rfl (At.mid [0, 1, 2, 3, 4, 5, 6] (.cons (and_of_f h128 rfl) (.cons (rfl) (.cons (rfl) (.nil _)))) rfl (by decide))
  refine Rg.pure (d := 121) (op := .move (.tmp 120)) (g := none) (v := .bool (((((((((((decide ((hdlE (rootN 5 0 493) 1) = 0)) && (decide (((findS (rootN 5 0 493) (hdlB (rootN 5 0 493) 1)).1) = 1))) && (decide (((findS (rootN 5 0 493) (hdlB (rootN 5 0 493) 1)).2) = 0))) && (decide (((findS (rootN 5 0 493) ([] : List Int)).2) = 10001))) && true) && (decide (((findS (rootN 5 0 493) (hB 1 7)).2) = 70))) && (decide ((hdlE (rootN 5 0 493) 2) = 1))) && (thereS (rootN 5 0 493) 1)) && (decide ((attrLinks (rootN 5 0 493) 1) = 2))) && (decide ((attrSize (rootN 5 0 493) 1) = 0))) && (decide ((entryS (rootN 5 0 4096) 1 ⟨#[46, 46]⟩) = 1)))) (by kernel_rfl) (by kernel_rfl) (pv_move rfl) ?_
  refine Rg.split 49 [(125, .bool ((((((((((((decide ((hdlE (rootN 5 0 493) 1) = 0)) && (decide (((findS (rootN 5 0 493) (hdlB (rootN 5 0 493) 1)).1) = 1))) && (decide (((findS (rootN 5 0 493) (hdlB (rootN 5 0 493) 1)).2) = 0))) && (decide (((findS (rootN 5 0 493) ([] : List Int)).2) = 10001))) && true) && (decide (((findS (rootN 5 0 493) (hB 1 7)).2) = 70))) && (decide ((hdlE (rootN 5 0 493) 2) = 1))) && (thereS (rootN 5 0 493) 1)) && (decide ((attrLinks (rootN 5 0 493) 1) = 2))) && (decide ((attrSize (rootN 5 0 493) 1) = 0))) && (decide ((entryS (rootN 5 0 4096) 1 ⟨#[46, 46]⟩) = 1))) && (!(checkS (rootN 5 0 4096) 1)))), (0, .bool false)] [blk b12 (.cells (attrsS (rootN 5 0 493) 1) 38 (0, 0)), own 5 1 p9 ((hdlB (rootN 5 0 493) 2).length) c10 (bv (hdlB (rootN 5 0 493) 2)), own 5 1 p6 16 c7 (bv (hB 1 7)), own 5 1 p3 ((hdlB (rootN 5 0 493) 1).length) c4 (bv (hdlB (rootN 5 0 493) 1)), blk b2 (.cells #[.slice (some ⟨b1, 0, none⟩) 2 2, .int .u32 1] 25 (0, 0)), blk b1 (.cells (rootC 5 0 4096) 44 (0, 0)), base w (Low w)] (s := 121) (g := ((((((((((decide ((hdlE (rootN 5 0 493) 1) = 0)) && (decide (((findS (rootN 5 0 493) (hdlB (rootN 5 0 493) 1)).1) = 1))) && (decide (((findS (rootN 5 0 493) (hdlB (rootN 5 0 493) 1)).2) = 0))) && (decide (((findS (rootN 5 0 493) ([] : List Int)).2) = 10001))) && true) && (decide (((findS (rootN 5 0 493) (hB 1 7)).2) = 70))) && (decide ((hdlE (rootN 5 0 493) 2) = 1))) && (thereS (rootN 5 0 493) 1)) && (decide ((attrLinks (rootN 5 0 493) 1) = 2))) && (decide ((attrSize (rootN 5 0 493) 1) = 0))) && (decide ((entryS (rootN 5 0 4096) 1 ⟨#[46, 46]⟩) = 1))) rfl (by decide) (fun h158 => ?_) (fun h158 => ?_) ?_
  ·
    have ⟨h159, h160⟩ := and_t h158
    have ⟨h161, h162⟩ := and_t h159
    have ⟨h163, h164⟩ := and_t h161
    have ⟨h165, h166⟩ := and_t h163
    have ⟨h167, h168⟩ := and_t h165
    have ⟨h169, h170⟩ := and_t h167
    have ⟨h171, h172⟩ := and_t h169
    have ⟨h173, h174⟩ := and_t h171
    have ⟨h175, h176⟩ := and_t h173
    have ⟨h177, h178⟩ := and_t h175
    have h179 := of_decide_eq_true h177
    have h180 := of_decide_eq_true h178
    have h181 := of_decide_eq_true h176
    have h182 := of_decide_eq_true h174
    have h183 := of_decide_eq_true h170
    have h184 := of_decide_eq_true h168
    have ⟨h185, h186, h187⟩ := thereS_t h166
    have h188 := of_decide_eq_true h164
    have h189 := of_decide_eq_true h162
    have h190 := of_decide_eq_true h160
    refine Rg.pure (d := 122) (op := .load 25 (.tmp 1)) (g := some (44, true)) (v := .agg #[.slice (some ⟨b1, 0, none⟩) 2 2, .int .u32 1]) (by kernel_rfl) (by kernel_rfl) (pv_load_blk_whole 4 rfl rfl (by kernel_rfl) (by kernel_rfl)) ?_
    refine rg_call (d := some 123) (f := 15) (xs := #[.tmp 122]) (ts := #[25]) (g := some (44, true)) (v := .bool (checkS (rootN 5 0 4096) 1)) (by kernel_rfl) (by kernel_rfl) (by kernel_rfl) rfl (fun w hw => Check_calls (rootN_here hw 5 rfl) rootN_wf) ?_
    refine Rg.pure (d := 124) (op := .unOp .not 4 (.tmp 123)) (g := some (44, true)) (v := .bool (!(checkS (rootN 5 0 4096) 1))) (by kernel_rfl) (by kernel_rfl) (pv_not (b := checkS (rootN 5 0 4096) 1) rfl) ?_
    refine Rg.pure (d := 125) (op := .pick (.tmp 121) (.tmp 124) (.const (.bool false))) (g := none) (v := .bool (!(checkS (rootN 5 0 4096) 1))) (by kernel_rfl) (by kernel_rfl) (pv_pick_t rfl rfl) ?_
    refine Rg.fin rfl (At.mid [0, 1, 2, 3, 4, 5, 6] (.cons (and_of_t h158 rfl) (.cons (rfl) (.nil _))) rfl (by decide))
  ·
    refine Rg.skips 48 (by kernel_rfl) ?_
    refine Rg.pure (d := 125) (op := .pick (.tmp 121) (.tmp 124) (.const (.bool false))) (g := none) (v := .bool false) (by kernel_rfl) (by kernel_rfl) (pv_pick_f rfl rfl) ?_
    refine Rg.fin rfl (At.mid [0, 1, 2, 3, 4, 5, 6] (.cons (and_of_f h158 rfl) (.cons (rfl) (.nil _))) rfl (by decide))
  refine Rg.pure (d := 0) (op := .assign (.tmp 125)) (g := none) (v := .bool ((((((((((((decide ((hdlE (rootN 5 0 493) 1) = 0)) && (decide (((findS (rootN 5 0 493) (hdlB (rootN 5 0 493) 1)).1) = 1))) && (decide (((findS (rootN 5 0 493) (hdlB (rootN 5 0 493) 1)).2) = 0))) && (decide (((findS (rootN 5 0 493) ([] : List Int)).2) = 10001))) && true) && (decide (((findS (rootN 5 0 493) (hB 1 7)).2) = 70))) && (decide ((hdlE (rootN 5 0 493) 2) = 1))) && (thereS (rootN 5 0 493) 1)) && (decide ((attrLinks (rootN 5 0 493) 1) = 2))) && (decide ((attrSize (rootN 5 0 493) 1) = 0))) && (decide ((entryS (rootN 5 0 4096) 1 ⟨#[46, 46]⟩) = 1))) && (!(checkS (rootN 5 0 4096) 1)))) (by kernel_rfl) (by kernel_rfl) (pv_assign rfl) ?_
  refine Rg.fin rfl ?_
  refine at_codeS [0, 1, 2, 3, 4, 5, 6] [(0, _)] [blk b12 (.cells (attrsS (rootN 5 0 493) 1) 38 (0, 0)), own 5 1 p9 ((hdlB (rootN 5 0 493) 2).length) c10 (bv (hdlB (rootN 5 0 493) 2)), own 5 1 p6 16 c7 (bv (hB 1 7)), own 5 1 p3 ((hdlB (rootN 5 0 493) 1).length) c4 (bv (hdlB (rootN 5 0 493) 1)), blk b2 (.cells #[.slice (some ⟨b1, 0, none⟩) 2 2, .int .u32 1] 25 (0, 0)), blk b1 (.cells (rootC 5 0 4096) 44 (0, 0)), base w (Low w)] (.cons rfl (.nil _)) rfl (by decide) (fun _ _ h => h) ?_
  refine ev_ret (by kernel_rfl) ?_
  refine At.via (Q := Q) hQ ?_
  refine At.ret1 rfl rfl rfl ?_
  exact fun w hw => ⟨(by rw [show ((((((((((((decide ((hdlE (rootN 5 0 493) 1) = 0)) && (decide (((findS (rootN 5 0 493) (hdlB (rootN 5 0 493) 1)).1) = 1))) && (decide (((findS (rootN 5 0 493) (hdlB (rootN 5 0 493) 1)).2) = 0))) && (decide (((findS (rootN 5 0 493) ([] : List Int)).2) = 10001))) && true) && (decide (((findS (rootN 5 0 493) (hB 1 7)).2) = 70))) && (decide ((hdlE (rootN 5 0 493) 2) = 1))) && (thereS (rootN 5 0 493) 1)) && (decide ((attrLinks (rootN 5 0 493) 1) = 2))) && (decide ((attrSize (rootN 5 0 493) 1) = 0))) && (decide ((entryS (rootN 5 0 4096) 1 ⟨#[46, 46]⟩) = 1))) && (!(checkS (rootN 5 0 4096) 1))) = true from by kernel_rfl]), hw.base_below 6 rfl⟩

end Go.Proofs.Ytfhhggcdmgjbcaa.Sx
