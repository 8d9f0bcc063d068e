/-
  A part of the walk of the seat: laws of a small proof system, and contracts of functions, each proved. Conditions: as each theorem says.
-/
import Derived.Test.YtfhhggcdmgjbcaaProg
import Derived.Test.YtfhhggcdmgjbcaaT18
namespace Go.Proofs.Ytfhhggcdmgjbcaa.Sx
open Go Go.RowKit Go.Proofs

def root (s n mode : Int) : Node := { Node.zero with kind := 2, mode := mode, links := 2, parent := 1, next := 3, rs := s, rn := n, ws := s, wn := n, ts := s, tn := n }
def rootC (s n mode : Int) : Array Value := ((Node.zero.cells Loc.zero).toList ++ ((root s n mode).cells Loc.zero).toList).toArray
def rootN (s n mode : Int) : List Node := [Node.zero, root s n mode]
theorem rootN_wf {s n mode : Int} (hs : U32 s) (hn : U32 n) (hm : U32 mode) : NodesWf (rootN s n mode) := by
  have hz : NodeWf Node.zero := by
    refine ⟨?_, ?_, ?_, ?_, ?_, ?_, ?_, ?_, ?_, ?_, ?_, ?_, ?_, fun i => ?_, by simp [Node.zero, U32], by simp [Node.zero], by simp [Node.zero, V8.zero]⟩ <;> try decide
    have : en Node.zero.list i = Entry.zero := by simp [en, Node.zero]
    rw [this]; exact ⟨by decide, by decide, by decide, by decide, by decide⟩
  have hr : NodeWf (root s n mode) := by
    refine ⟨?_, ?_, ?_, ?_, ?_, ?_, ?_, ?_, ?_, ?_, ?_, ?_, ?_, fun i => ?_, ⟨hm, by simp [root, Node.zero, U32], by simp [root, Node.zero, U32], hs, hn, hs, hn, hs, hn⟩, by simp [root, Node.zero], by simp [root, Node.zero, V8.zero]⟩ <;> try (simp only [root]; decide)
    have : en (root s n mode).list i = Entry.zero := by simp [en, root, Node.zero]
    rw [this]; exact ⟨by decide, by decide, by decide, by decide, by decide⟩
  refine ⟨by show 2 ≤ 16777216; omega, fun i => ?_⟩
  rcases i with _ | _ | i
  · exact hz
  · exact hr
  · have : nd (rootN s n mode) (i + 2) = Node.zero := by simp [nd, rootN]
    rw [this]; exact hz
theorem rootN_here {w0 w : World} {S : List Item} {s n mode : Int} (hw : Heap w0 S w) (j : Nat) {b : Nat} {T : Nat} {z : Nat × Nat} (hj : S[j]? = some (blk b (.cells (rootC s n mode) T z))) : NodesAt (Low w) w (some ⟨b, 0, none⟩) (rootN s n mode) (List.replicate 2 Loc.zero) := by
  refine blk_nodes hw j (rootN s n mode) hj (fun i hi q hq => ?_) (fun i hi => ?_)
  · have hi' : i < 2 := hi
    obtain rfl | rfl : i = 0 ∨ i = 1 := by omega
    · show (rootC s n mode)[0 * 25 + q]? = (Node.zero.cells Loc.zero)[q]?
      simp only [rootC, List.getElem?_toArray]
      rw [List.getElem?_append_left (by show 0 * 25 + q < 25; omega), Nat.zero_mul, Nat.zero_add]; simp
    · show (rootC s n mode)[1 * 25 + q]? = ((root s n mode).cells Loc.zero)[q]?
      simp only [rootC, List.getElem?_toArray]
      rw [List.getElem?_append_right (by show 25 ≤ 1 * 25 + q; omega), show 1 * 25 + q - (Node.zero.cells Loc.zero).toList.length = q by show 1 * 25 + q - 25 = q; omega]; simp
  · have hi' : i < 2 := hi
    obtain rfl | rfl : i = 0 ∨ i = 1 := by omega
    · exact ⟨rfl, rfl⟩
    · exact ⟨rfl, rfl⟩

set_option maxHeartbeats 8000000 in
theorem New_calls {s n : Int} {w : World} (hn : n < 1000000000) :
  Calls Try.prog 52 #[.agg #[.int .u32 s, .int .u32 n]] w (RetN w (fun _ : Nat => True) (fun b => .agg #[.slice (some ⟨b, 0, none⟩) 2 2, .int .u32 1]) (fun b => [blk b (.cells (rootC s n 493) 44 (0, 0))])) := by
 refine calls_ofQ (args := [_]) [base w (Low w)] Try.func52 (by kernel_rfl) (by kernel_rfl) (Heap.start w) ?_
 intro Q hQ
 refine Ev.sr 2 ?_
 refine Rg.bx 1 36 (.tmp 0) rfl fun b1 => ?_
 refine Rg.al 2 25 (.agg #[.slice none 0 0, .int .u32 0]) fun b2 => ?_
 refine Rg.nx (fun _ _ h => h) [2,1] rfl ?_
 refine Ev.sq ?_
 refine Ev.sr 3 ?_
 refine Rg.p 3 (.load 36 (.tmp 1)) (v := .agg #[.int .u32 s, .int .u32 n]) (pv_load_blk_whole 1 rfl rfl (by kernel_rfl) (by kernel_rfl)) ?_
 refine Rg.cl (some 4) 59 #[.tmp 3] #[36] (v := .bool true) rfl (fun w hw => (by have h := timesCheck_calls (a := s) (b := n) (w := w); rw [decide_eq_true hn] at h; exact h)) ?_
 refine Rg.p 5 (.unOp .not 4 (.tmp 4)) (pv_not (b := true) rfl) ?_
 refine Rg.nx (fun _ _ h => h) [5,2,1] rfl ?_
 refine ev_cond_f (t := 5) (by kernel_rfl) rfl ?_
 refine Ev.sk ?_
 refine At.nx (fun _ _ h => h) [2,1] rfl ?_
 refine Ev.sr 8 ?_
 refine Rg.p 7 (.build 44 #[]) (v := .agg #[.int .u32 0, .int .u32 0, .int .u32 0, .int .u32 0, .int .u32 0, .int .i64 0, .int .u32 0, .int .u32 0, .int .u32 0, .int .u32 0, .int .u32 0, .int .u32 0, .slice none 0 0, .int .u8 0, .int .u8 0, .int .u8 0, .int .u8 0, .int .u8 0, .int .u8 0, .int .u8 0, .int .u8 0, .string ⟨#[]⟩, .slice none 0 0, .int .i64 0, .int .u64 0]) (pv_build (parts := []) (vs := []) (fs := [(0, 1), (1, 1), (2, 1), (3, 1), (4, 1), (5, 1), (6, 2), (8, 2), (10, 2), (12, 1), (13, 8), (21, 1), (22, 1), (23, 1), (24, 1)]) (zv := .agg #[.int .u32 0, .int .u32 0, .int .u32 0, .int .u32 0, .int .u32 0, .int .i64 0, .int .u32 0, .int .u32 0, .int .u32 0, .int .u32 0, .int .u32 0, .int .u32 0, .slice none 0 0, .int .u8 0, .int .u8 0, .int .u8 0, .int .u8 0, .int .u8 0, .int .u8 0, .int .u8 0, .int .u8 0, .string ⟨#[]⟩, .slice none 0 0, .int .i64 0, .int .u64 0]) (cs := #[.int .u32 0, .int .u32 0, .int .u32 0, .int .u32 0, .int .u32 0, .int .i64 0, .int .u32 0, .int .u32 0, .int .u32 0, .int .u32 0, .int .u32 0, .int .u32 0, .slice none 0 0, .int .u8 0, .int .u8 0, .int .u8 0, .int .u8 0, .int .u8 0, .int .u8 0, .int .u8 0, .int .u8 0, .string ⟨#[]⟩, .slice none 0 0, .int .i64 0, .int .u64 0]) rfl (by kernel_rfl) (by kernel_rfl) (by kernel_rfl)) ?_
 refine Rg.p 8 (.load 36 (.tmp 1)) (v := .agg #[.int .u32 s, .int .u32 n]) (pv_load_blk_whole 1 rfl rfl (by kernel_rfl) (by kernel_rfl)) ?_
 refine Rg.p 9 (.load 36 (.tmp 1)) (v := .agg #[.int .u32 s, .int .u32 n]) (pv_load_blk_whole 1 rfl rfl (by kernel_rfl) (by kernel_rfl)) ?_
 refine Rg.p 10 (.load 36 (.tmp 1)) (v := .agg #[.int .u32 s, .int .u32 n]) (pv_load_blk_whole 1 rfl rfl (by kernel_rfl) (by kernel_rfl)) ?_
 refine Rg.p 11 (.build 44 #[(0, .const (.int .u32 2)), (2, .const (.int .u32 493)), (5, .const (.int .i64 2)), (13, .const (.int .i64 1)), (14, .const (.int .u64 3)), (6, .tmp 8), (7, .tmp 9), (8, .tmp 10)]) (v := .agg #[.int .u32 2, .int .u32 0, .int .u32 493, .int .u32 0, .int .u32 0, .int .i64 2, .int .u32 s, .int .u32 n, .int .u32 s, .int .u32 n, .int .u32 s, .int .u32 n, .slice none 0 0, .int .u8 0, .int .u8 0, .int .u8 0, .int .u8 0, .int .u8 0, .int .u8 0, .int .u8 0, .int .u8 0, .string ⟨#[]⟩, .slice none 0 0, .int .i64 1, .int .u64 3]) (pv_build (parts := [(0, .const (.int .u32 2)), (2, .const (.int .u32 493)), (5, .const (.int .i64 2)), (13, .const (.int .i64 1)), (14, .const (.int .u64 3)), (6, .tmp 8), (7, .tmp 9), (8, .tmp 10)]) (vs := [.int .u32 2, .int .u32 493, .int .i64 2, .int .i64 1, .int .u64 3, .agg #[.int .u32 s, .int .u32 n], .agg #[.int .u32 s, .int .u32 n], .agg #[.int .u32 s, .int .u32 n]]) (fs := [(0, 1), (1, 1), (2, 1), (3, 1), (4, 1), (5, 1), (6, 2), (8, 2), (10, 2), (12, 1), (13, 8), (21, 1), (22, 1), (23, 1), (24, 1)]) (zv := .agg #[.int .u32 0, .int .u32 0, .int .u32 0, .int .u32 0, .int .u32 0, .int .i64 0, .int .u32 0, .int .u32 0, .int .u32 0, .int .u32 0, .int .u32 0, .int .u32 0, .slice none 0 0, .int .u8 0, .int .u8 0, .int .u8 0, .int .u8 0, .int .u8 0, .int .u8 0, .int .u8 0, .int .u8 0, .string ⟨#[]⟩, .slice none 0 0, .int .i64 0, .int .u64 0]) (cs := #[.int .u32 2, .int .u32 0, .int .u32 493, .int .u32 0, .int .u32 0, .int .i64 2, .int .u32 s, .int .u32 n, .int .u32 s, .int .u32 n, .int .u32 s, .int .u32 n, .slice none 0 0, .int .u8 0, .int .u8 0, .int .u8 0, .int .u8 0, .int .u8 0, .int .u8 0, .int .u8 0, .int .u8 0, .string ⟨#[]⟩, .slice none 0 0, .int .i64 1, .int .u64 3]) rfl (by kernel_rfl) (by kernel_rfl) (by kernel_rfl)) ?_
 refine rg_buildSlice (d := 12) (t := 22) (e := 44) (sz := 25) (len := 2) (parts := [(0, .tmp 7), (1, .tmp 11)]) (g := none) (vs := [.agg #[.int .u32 0, .int .u32 0, .int .u32 0, .int .u32 0, .int .u32 0, .int .i64 0, .int .u32 0, .int .u32 0, .int .u32 0, .int .u32 0, .int .u32 0, .int .u32 0, .slice none 0 0, .int .u8 0, .int .u8 0, .int .u8 0, .int .u8 0, .int .u8 0, .int .u8 0, .int .u8 0, .int .u8 0, .string ⟨#[]⟩, .slice none 0 0, .int .i64 0, .int .u64 0], .agg #[.int .u32 2, .int .u32 0, .int .u32 493, .int .u32 0, .int .u32 0, .int .i64 2, .int .u32 s, .int .u32 n, .int .u32 s, .int .u32 n, .int .u32 s, .int .u32 n, .slice none 0 0, .int .u8 0, .int .u8 0, .int .u8 0, .int .u8 0, .int .u8 0, .int .u8 0, .int .u8 0, .int .u8 0, .string ⟨#[]⟩, .slice none 0 0, .int .i64 1, .int .u64 3]]) (cs := #[.int .u32 0, .int .u32 0, .int .u32 0, .int .u32 0, .int .u32 0, .int .i64 0, .int .u32 0, .int .u32 0, .int .u32 0, .int .u32 0, .int .u32 0, .int .u32 0, .slice none 0 0, .int .u8 0, .int .u8 0, .int .u8 0, .int .u8 0, .int .u8 0, .int .u8 0, .int .u8 0, .int .u8 0, .string ⟨#[]⟩, .slice none 0 0, .int .i64 0, .int .u64 0, .int .u32 2, .int .u32 0, .int .u32 493, .int .u32 0, .int .u32 0, .int .i64 2, .int .u32 s, .int .u32 n, .int .u32 s, .int .u32 n, .int .u32 s, .int .u32 n, .slice none 0 0, .int .u8 0, .int .u8 0, .int .u8 0, .int .u8 0, .int .u8 0, .int .u8 0, .int .u8 0, .int .u8 0, .string ⟨#[]⟩, .slice none 0 0, .int .i64 1, .int .u64 3]) (by kernel_rfl) (by kernel_rfl) rfl (by kernel_rfl) (.agg #[.int .u32 0, .int .u32 0, .int .u32 0, .int .u32 0, .int .u32 0, .int .i64 0, .int .u32 0, .int .u32 0, .int .u32 0, .int .u32 0, .int .u32 0, .int .u32 0, .slice none 0 0, .int .u8 0, .int .u8 0, .int .u8 0, .int .u8 0, .int .u8 0, .int .u8 0, .int .u8 0, .int .u8 0, .string ⟨#[]⟩, .slice none 0 0, .int .i64 0, .int .u64 0]) (by kernel_rfl) (by kernel_rfl) (by kernel_rfl) ?_
 intro b3
 refine Rg.p 13 (.build 25 #[(1, .const (.int .u32 1)), (0, .tmp 12)]) (v := .agg #[.slice (some ⟨b3, 0, none⟩) 2 2, .int .u32 1]) (pv_build (parts := [(1, .const (.int .u32 1)), (0, .tmp 12)]) (vs := [.int .u32 1, .slice (some ⟨b3, 0, none⟩) 2 2]) (fs := [(0, 1), (1, 1)]) (zv := .agg #[.slice none 0 0, .int .u32 0]) (cs := #[.slice (some ⟨b3, 0, none⟩) 2 2, .int .u32 1]) rfl (by kernel_rfl) (by kernel_rfl) (by kernel_rfl)) ?_
 refine Rg.st 25 2 (.tmp 13) 1 #[.slice (some ⟨b3, 0, none⟩) 2 2, .int .u32 1] rfl rfl rfl ?_
 refine Rg.nx (fun _ _ h => h) [2] rfl ?_
 refine Ev.rt ?_
 refine At.via (Q := Q) hQ ?_
 refine At.retCell rfl rfl (reads_cellA 1 rfl rfl (by kernel_rfl) (by kernel_rfl)) ?_
 exact fun w hw => ⟨b3, trivial, rfl, hw.pick [0, 3] (by decide)⟩

set_option maxHeartbeats 8000000 in
theorem lives_calls {w : World} :
  Calls Try.prog 16 #[] w (Ret w (.bool true)) := by
 refine calls_ofQ (args := []) [base w (Low w)] Try.func16 (by kernel_rfl) (by kernel_rfl) (Heap.start w) ?_
 intro Q hQ
 refine Ev.sr 1 ?_
 refine Rg.ac 0 (.bool false) ?_
 refine Rg.nx (fun _ _ h => h) [0] rfl ?_
 refine Ev.sr 4 ?_
 refine Rg.p 16 (.build 36 #[(0, .const (.int .u32 5))]) (v := .agg #[.int .u32 5, .int .u32 0]) (pv_build (parts := [(0, .const (.int .u32 5))]) (vs := [.int .u32 5]) (fs := [(0, 1), (1, 1)]) (zv := .agg #[.int .u32 0, .int .u32 0]) (cs := #[.int .u32 5, .int .u32 0]) rfl (by kernel_rfl) (by kernel_rfl) (by kernel_rfl)) ?_
 refine Rg.cn (T := Nat) (some 17) 52 #[.tmp 16] #[36] (v := fun b1 => .agg #[.slice (some ⟨b1, 0, none⟩) 2 2, .int .u32 1]) (L := fun b1 => [blk b1 (.cells (rootC 5 0 493) 44 (0, 0))]) rfl (fun w hw => New_calls (by decide)) ?_
 rintro b1 _
 dsimp only [putE, List.append, HAppend.hAppend, Append.append]
 refine Rg.al 1 25 (.agg #[.slice none 0 0, .int .u32 0]) fun b2 => ?_
 refine Rg.st 25 1 (.tmp 17) 0 #[.slice (some ⟨b1, 0, none⟩) 2 2, .int .u32 1] rfl rfl rfl ?_
 refine Rg.nx (fun _ _ h => h) [1,0] rfl ?_
 refine Ev.sq ?_
 refine Ev.sr 18 ?_
 refine Rg.fa 18 25 1 0 0 rfl ?_
 refine Rg.ld 19 22 18 0 rfl rfl rfl ?_
 refine Rg.p 20 (.call { callee := .builtin .len, args := #[.tmp 19], argTypes := #[22] }) (v := .int .i64 (2 : Int)) (pv_len_slice rfl (by kernel_rfl)) ?_
 refine Rg.p 21 (.binOp .neq 3 (.tmp 20) (.const (.int .i64 2)) 3) (pv_neq rfl rfl) ?_
 refine Rg.know 21 (b := !(decide ((2 : Int) = 2))) (c := false) rfl (by decide) ?_
 refine Rg.mv 22 21 rfl ?_
 refine Rg.pg 4 false 23 (.load 25 (.tmp 1)) (v := .agg #[.slice (some ⟨b1, 0, none⟩) 2 2, .int .u32 1]) (pv_load_blk_whole 0 rfl rfl (by kernel_rfl) (by kernel_rfl)) ?_
 refine rg_call (d := some 24) (f := 15) (xs := #[.tmp 23]) (ts := #[25]) (g := some (4, false)) (v := .bool (checkS (rootN 5 0 493) 1)) (by kernel_rfl) (by kernel_rfl) (by kernel_rfl) rfl (fun w hw => Check_calls (rootN_here hw 1 rfl) (rootN_wf (by simp [U32]) (by simp [U32]) (by simp [U32]))) ?_
 refine Rg.pg 4 false 25 (.unOp .not 4 (.tmp 24)) (pv_not (b := checkS (rootN 5 0 493) 1) rfl) ?_
 refine Rg.p 26 (.pick (.tmp 22) (.const (.bool true)) (.tmp 25)) (pv_pick_f rfl rfl) ?_
 refine Rg.mv 27 26 rfl ?_
 refine Rg.go 18 35 27 (!(decide (((root 5 0 493).ts) = 5) && (decide (((root 5 0 493).tn) = 0) && true))) rfl (fun h1 => ?_) (fun h1 => ?_) ?_
 ·
  refine Rg.skips 17 (by kernel_rfl) ?_
  refine Rg.p 35 (.pick (.tmp 27) (.const (.bool true)) (.tmp 34)) (pv_pick_t rfl rfl) ?_
  exact Rg.em 27 h1 (ot_t h1) rfl rfl
 ·
  have h2 := not_f h1
  refine Rg.pg 9 false 28 (.fieldAddr 25 (.tmp 1) 0) (pv_fieldAddr rfl (n := 0) (by kernel_rfl)) ?_
  refine Rg.pg 9 false 29 (.load 22 (.tmp 28)) (v := .slice (some ⟨b1, 0, none⟩) 2 2) (pv_load_blk 0 rfl rfl (by kernel_rfl) rfl) ?_
  refine Rg.pg 9 false 30 (.indexAddr 22 (.tmp 29) (.const (.int .i64 1))) (v := .pointer (some ⟨b1, 0 + (1 : Int).toNat * 25, none⟩)) (pv_indexAddr rfl rfl (e := 44) (sz := 25) (by kernel_rfl) (by omega) (by omega)) ?_
  refine Rg.pg 9 false 31 (.fieldAddr 44 (.tmp 30) 8) (pv_fieldAddr rfl (n := 10) (by kernel_rfl)) ?_
  refine Rg.pg 9 false 32 (.load 36 (.tmp 31)) (v := .agg #[.int .u32 ((root 5 0 493).ts), .int .u32 ((root 5 0 493).tn)]) (pv_load_blk_agg 1 rfl rfl (vs := #[.int .u32 ((root 5 0 493).ts), .int .u32 ((root 5 0 493).tn)]) (by kernel_rfl) (by kernel_rfl) (agg_rfl (by kernel_rfl))) ?_
  refine Rg.pg 9 false 33 (.build 36 #[(0, .const (.int .u32 5))]) (v := .agg #[.int .u32 5, .int .u32 0]) (pv_build (parts := [(0, .const (.int .u32 5))]) (vs := [.int .u32 5]) (fs := [(0, 1), (1, 1)]) (zv := .agg #[.int .u32 0, .int .u32 0]) (cs := #[.int .u32 5, .int .u32 0]) rfl (by kernel_rfl) (by kernel_rfl) (by kernel_rfl)) ?_
  refine Rg.pg 9 false 34 (.binOp .neq 36 (.tmp 32) (.tmp 33) 36) (pv_neq_struct (b := (decide (((root 5 0 493).ts) = 5) && (decide (((root 5 0 493).tn) = 0) && true))) rfl rfl (by kernel_rfl) (by kernel_rfl) (by kernel_rfl) (by kernel_rfl)) ?_
  refine Rg.p 35 (.pick (.tmp 27) (.const (.bool true)) (.tmp 34)) (pv_pick_f rfl rfl) ?_
  exact Rg.em 27 h1 (ot_f h1) rfl rfl
 refine Rg.nx (fun _ _ h => h) [35,1,0] rfl ?_
 refine ev_cond_f (t := 35) (by kernel_rfl) (by kernel_rfl) ?_
 refine Ev.sk ?_
 refine At.nx (fun _ _ h => h) [1,0] rfl ?_
 refine Ev.sr 7 ?_
 refine Rg.p 37 (.load 25 (.tmp 1)) (v := .agg #[.slice (some ⟨b1, 0, none⟩) 2 2, .int .u32 1]) (pv_load_blk_whole 0 rfl rfl (by kernel_rfl) (by kernel_rfl)) ?_
 refine Rg.cn (T := Option Addr × Nat) (some 38) 17 #[.tmp 37, .const (.int .i64 1)] #[25, 3] (v := fun ⟨p3, c4⟩ => .tuple #[.slice p3 ((hdlB (rootN 5 0 493) 1).length) c4, .int .i64 (hdlE (rootN 5 0 493) 1)]) (L := fun ⟨p3, c4⟩ => [own 5 1 p3 ((hdlB (rootN 5 0 493) 1).length) c4 (bv (hdlB (rootN 5 0 493) 1))]) rfl (fun w hw => Handle_calls (rootN_here hw 1 rfl) (rootN_wf (by simp [U32]) (by simp [U32]) (by simp [U32]))) ?_
 rintro ⟨p3, c4⟩ hc_c4
 dsimp only [putE, List.append, HAppend.hAppend, Append.append]
 have hk_c4 : (hdlB (rootN 5 0 493) 1).length ≤ c4 := hc_c4
 refine Rg.mv 36 38 rfl ?_
 refine Rg.ex 39 36 0 rfl rfl ?_
 refine Rg.ex 40 36 1 rfl rfl ?_
 refine Rg.as 2 39 rfl ?_
 refine Rg.as 3 40 rfl ?_
 refine Rg.nx (fun _ _ h => h) [3,2,1,0] rfl ?_
 refine Ev.sr 8 ?_
 refine Rg.p 42 (.load 25 (.tmp 1)) (v := .agg #[.slice (some ⟨b1, 0, none⟩) 2 2, .int .u32 1]) (pv_load_blk_whole 1 rfl rfl (by kernel_rfl) (by kernel_rfl)) ?_
 refine Rg.mv 43 2 rfl ?_
 refine Rg.cl (some 44) 19 #[.tmp 42, .tmp 43] #[25, 29] (v := .tuple #[.int .i64 ((findS (rootN 5 0 493) (hdlB (rootN 5 0 493) 1)).1), .int .u32 ((findS (rootN 5 0 493) (hdlB (rootN 5 0 493) 1)).2)]) rfl (fun w hw => Find_calls (rootN_here hw 2 rfl) (rootN_wf (by simp [U32]) (by simp [U32]) (by simp [U32])) (own_bytes hw 0 rfl) (by decide) (by have h := hk_c4; exact h)) ?_
 refine Rg.mv 41 44 rfl ?_
 refine Rg.ex 45 41 0 rfl rfl ?_
 refine Rg.ex 46 41 1 rfl rfl ?_
 refine Rg.as 4 45 rfl ?_
 refine Rg.as 5 46 rfl ?_
 refine Rg.nx (fun _ _ h => h) [5,4,3,1,0] rfl ?_
 refine Ev.sr 7 ?_
 refine Rg.p 48 (.load 25 (.tmp 1)) (v := .agg #[.slice (some ⟨b1, 0, none⟩) 2 2, .int .u32 1]) (pv_load_blk_whole 1 rfl rfl (by kernel_rfl) (by kernel_rfl)) ?_
 refine Rg.cl (some 49) 19 #[.tmp 48, .const (.slice none 0 0)] #[25, 29] (v := .tuple #[.int .i64 ((findS (rootN 5 0 493) ([] : List Int)).1), .int .u32 ((findS (rootN 5 0 493) ([] : List Int)).2)]) rfl (fun w hw => Find_calls (rootN_here hw 2 rfl) (rootN_wf (by simp [U32]) (by simp [U32]) (by simp [U32])) (nil_bytes) (by decide) (by decide)) ?_
 refine Rg.mv 47 49 rfl ?_
 refine Rg.ex 50 47 0 rfl rfl ?_
 refine Rg.ex 51 47 1 rfl rfl ?_
 refine Rg.as 6 50 rfl ?_
 refine Rg.as 7 51 rfl ?_
 refine Rg.nx (fun _ _ h => h) [7,5,4,3,1,0] rfl ?_
 refine Ev.sr 7 ?_
 refine Rg.p 53 (.build 132 #[(0, .const (.int .i64 1)), (1, .const (.int .u32 7))]) (v := .agg #[.int .i64 1, .int .u32 7]) (pv_build (parts := [(0, .const (.int .i64 1)), (1, .const (.int .u32 7))]) (vs := [.int .i64 1, .int .u32 7]) (fs := [(0, 1), (1, 1)]) (zv := .agg #[.int .i64 0, .int .u32 0]) (cs := #[.int .i64 1, .int .u32 7]) rfl (by kernel_rfl) (by kernel_rfl) (by kernel_rfl)) ?_
 refine Rg.cn (T := Option Addr × Nat) (some 54) 61 #[.tmp 53] #[132] (v := fun ⟨p6, c7⟩ => .tuple #[.slice p6 16 c7, .int .i64 0]) (L := fun ⟨p6, c7⟩ => [own 5 1 p6 16 c7 (bv (hB 1 7))]) rfl (fun w hw => hPut_calls (by decide) (by decide)) ?_
 rintro ⟨p6, c7⟩ hc_c7
 dsimp only [putE, List.append, HAppend.hAppend, Append.append]
 have hk_c7 : 16 ≤ c7 := hc_c7
 refine Rg.mv 52 54 rfl ?_
 refine Rg.ex 55 52 0 rfl rfl ?_
 refine Rg.ex 56 52 1 rfl rfl ?_
 refine Rg.as 8 55 rfl ?_
 refine Rg.as 9 56 rfl ?_
 refine Rg.nx (fun _ _ h => h) [9,8,7,5,4,3,1,0] rfl ?_
 refine Ev.sr 8 ?_
 refine Rg.p 58 (.load 25 (.tmp 1)) (v := .agg #[.slice (some ⟨b1, 0, none⟩) 2 2, .int .u32 1]) (pv_load_blk_whole 2 rfl rfl (by kernel_rfl) (by kernel_rfl)) ?_
 refine Rg.mv 59 8 rfl ?_
 refine Rg.cl (some 60) 19 #[.tmp 58, .tmp 59] #[25, 29] (v := .tuple #[.int .i64 ((findS (rootN 5 0 493) (hB 1 7)).1), .int .u32 ((findS (rootN 5 0 493) (hB 1 7)).2)]) rfl (fun w hw => Find_calls (rootN_here hw 3 rfl) (rootN_wf (by simp [U32]) (by simp [U32]) (by simp [U32])) (own_bytes hw 0 rfl) (by decide) (by have h := hk_c7; exact h)) ?_
 refine Rg.mv 57 60 rfl ?_
 refine Rg.ex 61 57 0 rfl rfl ?_
 refine Rg.ex 62 57 1 rfl rfl ?_
 refine Rg.as 10 61 rfl ?_
 refine Rg.as 11 62 rfl ?_
 refine Rg.nx (fun _ _ h => h) [11,9,7,5,4,3,1,0] rfl ?_
 refine Ev.sr 7 ?_
 refine Rg.p 64 (.load 25 (.tmp 1)) (v := .agg #[.slice (some ⟨b1, 0, none⟩) 2 2, .int .u32 1]) (pv_load_blk_whole 2 rfl rfl (by kernel_rfl) (by kernel_rfl)) ?_
 refine Rg.cn (T := Option Addr × Nat) (some 65) 17 #[.tmp 64, .const (.int .i64 2)] #[25, 3] (v := fun ⟨p9, c10⟩ => .tuple #[.slice p9 ((hdlB (rootN 5 0 493) 2).length) c10, .int .i64 (hdlE (rootN 5 0 493) 2)]) (L := fun ⟨p9, c10⟩ => [own 5 1 p9 ((hdlB (rootN 5 0 493) 2).length) c10 (bv (hdlB (rootN 5 0 493) 2))]) rfl (fun w hw => Handle_calls (rootN_here hw 3 rfl) (rootN_wf (by simp [U32]) (by simp [U32]) (by simp [U32]))) ?_
 rintro ⟨p9, c10⟩ hc_c10
 dsimp only [putE, List.append, HAppend.hAppend, Append.append]
 have hk_c10 : (hdlB (rootN 5 0 493) 2).length ≤ c10 := hc_c10
 refine Rg.mv 63 65 rfl ?_
 refine Rg.ex 66 63 0 rfl rfl ?_
 refine Rg.ex 67 63 1 rfl rfl ?_
 refine Rg.as 12 66 rfl ?_
 refine Rg.as 13 67 rfl ?_
 refine Rg.nx (fun _ _ h => h) [13,11,9,7,5,4,3,1,0] rfl ?_
 refine Ev.sr 8 ?_
 refine Rg.p 69 (.load 25 (.tmp 1)) (v := .agg #[.slice (some ⟨b1, 0, none⟩) 2 2, .int .u32 1]) (pv_load_blk_whole 3 rfl rfl (by kernel_rfl) (by kernel_rfl)) ?_
 refine Rg.cl (some 70) 18 #[.tmp 69, .const (.int .i64 1)] #[25, 3] (v := .tuple #[.agg (attrsS (rootN 5 0 493) 1), .bool (thereS (rootN 5 0 493) 1)]) rfl (fun w hw => Attrs_calls (rootN_here hw 4 rfl) (rootN_wf (by simp [U32]) (by simp [U32]) (by simp [U32]))) ?_
 refine Rg.mv 68 70 rfl ?_
 refine Rg.ex 71 68 0 rfl rfl ?_
 refine Rg.ex 72 68 1 rfl rfl ?_
 refine Rg.al 14 38 (.agg #[.int .u32 0, .int .u32 0, .int .u32 0, .int .u32 0, .int .u32 0, .int .u64 0, .int .u64 0, .int .u64 0, .int .u32 0, .int .u32 0, .int .u32 0, .int .u32 0, .int .u32 0, .int .u32 0]) fun b12 => ?_
 refine rg_store (t := 38) (x := .tmp 14) (y := .tmp 71) (g := none) (cs' := (attrsS (rootN 5 0 493) 1)) 0 (by kernel_rfl) (by kernel_rfl) rfl rfl rfl (by show szT Try.prog 38 = some ((attrsS (rootN 5 0 493) 1)).size; rw [attrs_size]; kernel_rfl) (by show 0 + ((attrsS (rootN 5 0 493) 1)).size ≤ _; rw [attrs_size]; decide) (attrs_one _ _) (attrs_put _ _ _ rfl) ?_
 refine Rg.as 15 72 rfl ?_
 refine Rg.nx (fun _ _ h => h) [15,14,13,11,9,7,5,4,3,1,0] rfl ?_
 refine Ev.sr 5 ?_
 refine Rg.fa 73 25 1 0 0 rfl ?_
 refine Rg.ld 74 22 73 4 rfl rfl rfl ?_
 refine Rg.p 75 (.indexAddr 22 (.tmp 74) (.const (.int .i64 1))) (v := .pointer (some ⟨b1, 0 + (1 : Int).toNat * 25, none⟩)) (pv_indexAddr rfl rfl (e := 44) (sz := 25) (by kernel_rfl) (by omega) (by omega)) ?_
 refine Rg.fa 76 44 75 2 2 rfl ?_
 refine Rg.st 23 76 (.const (.int .u32 4096)) 5 (rootC 5 0 4096) rfl rfl rfl ?_
 refine Rg.nx (fun _ _ h => h) [15,14,13,11,9,7,5,4,3,1,0] rfl ?_
 refine Ev.sr 50 ?_
 refine Rg.mv 77 3 rfl ?_
 refine Rg.p 78 (.binOp .eql 30 (.tmp 77) (.const (.int .i64 0)) 30) (pv_eql rfl rfl) ?_
 refine Rg.mv 79 78 rfl ?_
 refine Rg.ga 6 82 79 (decide (((findS (rootN 5 0 493) (hdlB (rootN 5 0 493) 1)).1) = 1)) rfl (fun h3 => ?_) (fun h3 => ?_) ?_
 ·
  have h4 := of_decide_eq_true h3
  refine Rg.pg 2 true 80 (.move (.tmp 4)) (pv_move rfl) ?_
  refine Rg.pg 2 true 81 (.binOp .eql 3 (.tmp 80) (.const (.int .i64 1)) 3) (pv_eql rfl rfl) ?_
  refine Rg.p 82 (.pick (.tmp 79) (.tmp 81) (.const (.bool false))) (pv_pick_t rfl rfl) ?_
  exact Rg.em 79 h3 (at_t h3) rfl rfl
 ·
  refine Rg.skips 5 (by kernel_rfl) ?_
  refine Rg.p 82 (.pick (.tmp 79) (.tmp 81) (.const (.bool false))) (pv_pick_f rfl rfl) ?_
  exact Rg.em 79 h3 (at_f h3) rfl rfl
 refine Rg.mv 83 82 rfl ?_
 refine Rg.ga 10 86 83 (decide (((findS (rootN 5 0 493) (hdlB (rootN 5 0 493) 1)).2) = 0)) rfl (fun h5 => ?_) (fun h5 => ?_) ?_
 ·
  have ⟨h6, h7⟩ := and_t h5
  have h8 := of_decide_eq_true h6
  have h9 := of_decide_eq_true h7
  refine Rg.pg 6 true 84 (.move (.tmp 5)) (pv_move rfl) ?_
  refine Rg.pg 6 true 85 (.binOp .eql 45 (.tmp 84) (.const (.int .u32 0)) 45) (pv_eql rfl rfl) ?_
  refine Rg.p 86 (.pick (.tmp 83) (.tmp 85) (.const (.bool false))) (pv_pick_t rfl rfl) ?_
  exact Rg.em 83 h5 (at_t h5) rfl rfl
 ·
  refine Rg.skips 9 (by kernel_rfl) ?_
  refine Rg.p 86 (.pick (.tmp 83) (.tmp 85) (.const (.bool false))) (pv_pick_f rfl rfl) ?_
  exact Rg.em 83 h5 (at_f h5) rfl rfl
 refine Rg.mv 87 86 rfl ?_
 refine Rg.ga 14 90 87 (decide (((findS (rootN 5 0 493) ([] : List Int)).2) = 10001)) rfl (fun h10 => ?_) (fun h10 => ?_) ?_
 ·
  have ⟨h11, h12⟩ := and_t h10
  have ⟨h13, h14⟩ := and_t h11
  have h15 := of_decide_eq_true h13
  have h16 := of_decide_eq_true h14
  have h17 := of_decide_eq_true h12
  refine Rg.pg 10 true 88 (.move (.tmp 7)) (pv_move rfl) ?_
  refine Rg.pg 10 true 89 (.binOp .eql 45 (.tmp 88) (.const (.int .u32 10001)) 45) (pv_eql rfl rfl) ?_
  refine Rg.p 90 (.pick (.tmp 87) (.tmp 89) (.const (.bool false))) (pv_pick_t rfl rfl) ?_
  exact Rg.em 87 h10 (at_t h10) rfl rfl
 ·
  refine Rg.skips 13 (by kernel_rfl) ?_
  refine Rg.p 90 (.pick (.tmp 87) (.tmp 89) (.const (.bool false))) (pv_pick_f rfl rfl) ?_
  exact Rg.em 87 h10 (at_f h10) rfl rfl
 refine Rg.mv 91 90 rfl ?_
 refine Rg.ga 18 94 91 true rfl (fun h18 => ?_) (fun h18 => ?_) ?_
 ·
  have ⟨h19, h20⟩ := and_t h18
  have ⟨h21, h22⟩ := and_t h19
  have ⟨h23, h24⟩ := and_t h21
  have h25 := of_decide_eq_true h23
  have h26 := of_decide_eq_true h24
  have h27 := of_decide_eq_true h22
  have h28 := of_decide_eq_true h20
  refine Rg.pg 14 true 92 (.move (.tmp 9)) (pv_move rfl) ?_
  refine Rg.pg 14 true 93 (.binOp .eql 30 (.tmp 92) (.const (.int .i64 0)) 30) (pv_eql rfl rfl) ?_
  refine Rg.know 93 (b := decide (0 = 0)) (c := true) rfl (by decide) ?_
  refine Rg.p 94 (.pick (.tmp 91) (.tmp 93) (.const (.bool false))) (pv_pick_t rfl rfl) ?_
  exact Rg.em 91 h18 (at_t h18) rfl rfl
 ·
  refine Rg.skips 17 (by kernel_rfl) ?_
  refine Rg.p 94 (.pick (.tmp 91) (.tmp 93) (.const (.bool false))) (pv_pick_f rfl rfl) ?_
  exact Rg.em 91 h18 (at_f h18) rfl rfl
 refine Rg.mv 95 94 rfl ?_
 refine Rg.ga 22 98 95 (decide (((findS (rootN 5 0 493) (hB 1 7)).2) = 70)) rfl (fun h29 => ?_) (fun h29 => ?_) ?_
 ·
  have ⟨h30, h31⟩ := and_t h29
  have ⟨h32, h33⟩ := and_t h30
  have ⟨h34, h35⟩ := and_t h32
  have ⟨h36, h37⟩ := and_t h34
  have h38 := of_decide_eq_true h36
  have h39 := of_decide_eq_true h37
  have h40 := of_decide_eq_true h35
  have h41 := of_decide_eq_true h33
  refine Rg.pg 18 true 96 (.move (.tmp 11)) (pv_move rfl) ?_
  refine Rg.pg 18 true 97 (.binOp .eql 45 (.tmp 96) (.const (.int .u32 70)) 45) (pv_eql rfl rfl) ?_
  refine Rg.p 98 (.pick (.tmp 95) (.tmp 97) (.const (.bool false))) (pv_pick_t rfl rfl) ?_
  exact Rg.em 95 h29 (at_t h29) rfl rfl
 ·
  refine Rg.skips 21 (by kernel_rfl) ?_
  refine Rg.p 98 (.pick (.tmp 95) (.tmp 97) (.const (.bool false))) (pv_pick_f rfl rfl) ?_
  exact Rg.em 95 h29 (at_f h29) rfl rfl
 refine Rg.mv 99 98 rfl ?_
 refine Rg.ga 26 102 99 (decide ((hdlE (rootN 5 0 493) 2) = 1)) rfl (fun h42 => ?_) (fun h42 => ?_) ?_
 ·
  have ⟨h43, h44⟩ := and_t h42
  have ⟨h45, h46⟩ := and_t h43
  have ⟨h47, h48⟩ := and_t h45
  have ⟨h49, h50⟩ := and_t h47
  have ⟨h51, h52⟩ := and_t h49
  have h53 := of_decide_eq_true h51
  have h54 := of_decide_eq_true h52
  have h55 := of_decide_eq_true h50
  have h56 := of_decide_eq_true h48
  have h57 := of_decide_eq_true h44
  refine Rg.pg 22 true 100 (.move (.tmp 13)) (pv_move rfl) ?_
  refine Rg.pg 22 true 101 (.binOp .eql 30 (.tmp 100) (.const (.int .i64 1)) 30) (pv_eql rfl rfl) ?_
  refine Rg.p 102 (.pick (.tmp 99) (.tmp 101) (.const (.bool false))) (pv_pick_t rfl rfl) ?_
  exact Rg.em 99 h42 (at_t h42) rfl rfl
 ·
  refine Rg.skips 25 (by kernel_rfl) ?_
  refine Rg.p 102 (.pick (.tmp 99) (.tmp 101) (.const (.bool false))) (pv_pick_f rfl rfl) ?_
  exact Rg.em 99 h42 (at_f h42) rfl rfl
 refine Rg.mv 103 102 rfl ?_
 refine Rg.ga 29 105 103 (thereS (rootN 5 0 493) 1) rfl (fun h58 => ?_) (fun h58 => ?_) ?_
 ·
  have ⟨h59, h60⟩ := and_t h58
  have ⟨h61, h62⟩ := and_t h59
  have ⟨h63, h64⟩ := and_t h61
  have ⟨h65, h66⟩ := and_t h63
  have ⟨h67, h68⟩ := and_t h65
  have ⟨h69, h70⟩ := and_t h67
  have h71 := of_decide_eq_true h69
  have h72 := of_decide_eq_true h70
  have h73 := of_decide_eq_true h68
  have h74 := of_decide_eq_true h66
  have h75 := of_decide_eq_true h62
  have h76 := of_decide_eq_true h60
  refine Rg.pg 26 true 104 (.move (.tmp 15)) (pv_move rfl) ?_
  refine Rg.p 105 (.pick (.tmp 103) (.tmp 104) (.const (.bool false))) (pv_pick_t rfl rfl) ?_
  exact Rg.em 103 h58 (at_t h58) rfl rfl
 ·
  refine Rg.skips 28 (by kernel_rfl) ?_
  refine Rg.p 105 (.pick (.tmp 103) (.tmp 104) (.const (.bool false))) (pv_pick_f rfl rfl) ?_
  exact Rg.em 103 h58 (at_f h58) rfl rfl
 refine Rg.mv 106 105 rfl ?_
 refine Rg.ga 34 110 106 (decide ((attrLinks (rootN 5 0 493) 1) = 2)) rfl (fun h77 => ?_) (fun h77 => ?_) ?_
 ·
  have ⟨h78, h79⟩ := and_t h77
  have ⟨h80, h81⟩ := and_t h78
  have ⟨h82, h83⟩ := and_t h80
  have ⟨h84, h85⟩ := and_t h82
  have ⟨h86, h87⟩ := and_t h84
  have ⟨h88, h89⟩ := and_t h86
  have ⟨h90, h91⟩ := and_t h88
  have h92 := of_decide_eq_true h90
  have h93 := of_decide_eq_true h91
  have h94 := of_decide_eq_true h89
  have h95 := of_decide_eq_true h87
  have h96 := of_decide_eq_true h83
  have h97 := of_decide_eq_true h81
  have ⟨h98, h99, h100⟩ := thereS_t h79
  refine Rg.pg 29 true 107 (.fieldAddr 38 (.tmp 14) 2) (pv_fieldAddr rfl (n := 2) (by kernel_rfl)) ?_
  refine Rg.pg 29 true 108 (.load 23 (.tmp 107)) (v := .int .u32 (attrLinks (rootN 5 0 493) 1)) (pv_load_blk 0 rfl rfl (by kernel_rfl) (attrs_2 _ _)) ?_
  refine Rg.pg 29 true 109 (.binOp .eql 23 (.tmp 108) (.const (.int .u32 2)) 23) (pv_eql rfl rfl) ?_
  refine Rg.p 110 (.pick (.tmp 106) (.tmp 109) (.const (.bool false))) (pv_pick_t rfl rfl) ?_
  exact Rg.em 106 h77 (at_t h77) rfl rfl
 ·
  refine Rg.skips 33 (by kernel_rfl) ?_
  refine Rg.p 110 (.pick (.tmp 106) (.tmp 109) (.const (.bool false))) (pv_pick_f rfl rfl) ?_
  exact Rg.em 106 h77 (at_f h77) rfl rfl
 refine Rg.mv 111 110 rfl ?_
 refine Rg.ga 39 115 111 (decide ((attrSize (rootN 5 0 493) 1) = 0)) rfl (fun h101 => ?_) (fun h101 => ?_) ?_
 ·
  have ⟨h102, h103⟩ := and_t h101
  have ⟨h104, h105⟩ := and_t h102
  have ⟨h106, h107⟩ := and_t h104
  have ⟨h108, h109⟩ := and_t h106
  have ⟨h110, h111⟩ := and_t h108
  have ⟨h112, h113⟩ := and_t h110
  have ⟨h114, h115⟩ := and_t h112
  have ⟨h116, h117⟩ := and_t h114
  have h118 := of_decide_eq_true h116
  have h119 := of_decide_eq_true h117
  have h120 := of_decide_eq_true h115
  have h121 := of_decide_eq_true h113
  have h122 := of_decide_eq_true h109
  have h123 := of_decide_eq_true h107
  have ⟨h124, h125, h126⟩ := thereS_t h105
  have h127 := of_decide_eq_true h103
  refine Rg.pg 34 true 112 (.fieldAddr 38 (.tmp 14) 5) (pv_fieldAddr rfl (n := 5) (by kernel_rfl)) ?_
  refine Rg.pg 34 true 113 (.load 34 (.tmp 112)) (v := .int .u64 (attrSize (rootN 5 0 493) 1)) (pv_load_blk 0 rfl rfl (by kernel_rfl) (attrs_5 _ _)) ?_
  refine Rg.pg 34 true 114 (.binOp .eql 34 (.tmp 113) (.const (.int .u64 0)) 34) (pv_eql rfl rfl) ?_
  refine Rg.p 115 (.pick (.tmp 111) (.tmp 114) (.const (.bool false))) (pv_pick_t rfl rfl) ?_
  exact Rg.em 111 h101 (at_t h101) rfl rfl
 ·
  refine Rg.skips 38 (by kernel_rfl) ?_
  refine Rg.p 115 (.pick (.tmp 111) (.tmp 114) (.const (.bool false))) (pv_pick_f rfl rfl) ?_
  exact Rg.em 111 h101 (at_f h101) rfl rfl
 refine Rg.mv 116 115 rfl ?_
 refine Rg.ga 44 120 116 (decide ((entryS (rootN 5 0 4096) 1 ⟨#[46, 46]⟩) = 1)) rfl (fun h128 => ?_) (fun h128 => ?_) ?_
 ·
  have ⟨h129, h130⟩ := and_t h128
  have ⟨h131, h132⟩ := and_t h129
  have ⟨h133, h134⟩ := and_t h131
  have ⟨h135, h136⟩ := and_t h133
  have ⟨h137, h138⟩ := and_t h135
  have ⟨h139, h140⟩ := and_t h137
  have ⟨h141, h142⟩ := and_t h139
  have ⟨h143, h144⟩ := and_t h141
  have ⟨h145, h146⟩ := and_t h143
  have h147 := of_decide_eq_true h145
  have h148 := of_decide_eq_true h146
  have h149 := of_decide_eq_true h144
  have h150 := of_decide_eq_true h142
  have h151 := of_decide_eq_true h138
  have h152 := of_decide_eq_true h136
  have ⟨h153, h154, h155⟩ := thereS_t h134
  have h156 := of_decide_eq_true h132
  have h157 := of_decide_eq_true h130
  refine Rg.pg 39 true 117 (.load 25 (.tmp 1)) (v := .agg #[.slice (some ⟨b1, 0, none⟩) 2 2, .int .u32 1]) (pv_load_blk_whole 4 rfl rfl (by kernel_rfl) (by kernel_rfl)) ?_
  refine rg_call (d := some 118) (f := 21) (xs := #[.tmp 117, .const (.int .i64 1), .const (.string ⟨#[46, 46]⟩)]) (ts := #[25, 3, 9]) (g := some (39, true)) (v := .int .i64 (entryS (rootN 5 0 4096) 1 ⟨#[46, 46]⟩)) (by kernel_rfl) (by kernel_rfl) (by kernel_rfl) rfl (fun w hw => Entry_calls (rootN_here hw 5 rfl) (rootN_wf (by simp [U32]) (by simp [U32]) (by simp [U32]))) ?_
  refine Rg.pg 39 true 119 (.binOp .eql 3 (.tmp 118) (.const (.int .i64 1)) 3) (pv_eql rfl rfl) ?_
  refine Rg.p 120 (.pick (.tmp 116) (.tmp 119) (.const (.bool false))) (pv_pick_t rfl rfl) ?_
  exact Rg.em 116 h128 (at_t h128) rfl rfl
 ·
  refine Rg.skips 43 (by kernel_rfl) ?_
  refine Rg.p 120 (.pick (.tmp 116) (.tmp 119) (.const (.bool false))) (pv_pick_f rfl rfl) ?_
  exact Rg.em 116 h128 (at_f h128) rfl rfl
 refine Rg.mv 121 120 rfl ?_
 refine Rg.ga 49 125 121 (!(checkS (rootN 5 0 4096) 1)) rfl (fun h158 => ?_) (fun h158 => ?_) ?_
 ·
  have ⟨h159, h160⟩ := and_t h158
  have ⟨h161, h162⟩ := and_t h159
  have ⟨h163, h164⟩ := and_t h161
  have ⟨h165, h166⟩ := and_t h163
  have ⟨h167, h168⟩ := and_t h165
  have ⟨h169, h170⟩ := and_t h167
  have ⟨h171, h172⟩ := and_t h169
  have ⟨h173, h174⟩ := and_t h171
  have ⟨h175, h176⟩ := and_t h173
  have ⟨h177, h178⟩ := and_t h175
  have h179 := of_decide_eq_true h177
  have h180 := of_decide_eq_true h178
  have h181 := of_decide_eq_true h176
  have h182 := of_decide_eq_true h174
  have h183 := of_decide_eq_true h170
  have h184 := of_decide_eq_true h168
  have ⟨h185, h186, h187⟩ := thereS_t h166
  have h188 := of_decide_eq_true h164
  have h189 := of_decide_eq_true h162
  have h190 := of_decide_eq_true h160
  refine Rg.pg 44 true 122 (.load 25 (.tmp 1)) (v := .agg #[.slice (some ⟨b1, 0, none⟩) 2 2, .int .u32 1]) (pv_load_blk_whole 4 rfl rfl (by kernel_rfl) (by kernel_rfl)) ?_
  refine rg_call (d := some 123) (f := 15) (xs := #[.tmp 122]) (ts := #[25]) (g := some (44, true)) (v := .bool (checkS (rootN 5 0 4096) 1)) (by kernel_rfl) (by kernel_rfl) (by kernel_rfl) rfl (fun w hw => Check_calls (rootN_here hw 5 rfl) (rootN_wf (by simp [U32]) (by simp [U32]) (by simp [U32]))) ?_
  refine Rg.pg 44 true 124 (.unOp .not 4 (.tmp 123)) (pv_not (b := checkS (rootN 5 0 4096) 1) rfl) ?_
  refine Rg.p 125 (.pick (.tmp 121) (.tmp 124) (.const (.bool false))) (pv_pick_t rfl rfl) ?_
  exact Rg.em 121 h158 (at_t h158) rfl rfl
 ·
  refine Rg.skips 48 (by kernel_rfl) ?_
  refine Rg.p 125 (.pick (.tmp 121) (.tmp 124) (.const (.bool false))) (pv_pick_f rfl rfl) ?_
  exact Rg.em 121 h158 (at_f h158) rfl rfl
 refine Rg.as 0 125 rfl ?_
 refine Rg.nx (fun _ _ h => h) [0] rfl ?_
 refine Ev.rt ?_
 refine At.via (Q := Q) hQ ?_
 refine At.ret1 rfl rfl rfl ?_
 exact fun w hw => ⟨(by rw [show ((((((((((((decide ((hdlE (rootN 5 0 493) 1) = 0)) && (decide (((findS (rootN 5 0 493) (hdlB (rootN 5 0 493) 1)).1) = 1))) && (decide (((findS (rootN 5 0 493) (hdlB (rootN 5 0 493) 1)).2) = 0))) && (decide (((findS (rootN 5 0 493) ([] : List Int)).2) = 10001))) && true) && (decide (((findS (rootN 5 0 493) (hB 1 7)).2) = 70))) && (decide ((hdlE (rootN 5 0 493) 2) = 1))) && (thereS (rootN 5 0 493) 1)) && (decide ((attrLinks (rootN 5 0 493) 1) = 2))) && (decide ((attrSize (rootN 5 0 493) 1) = 0))) && (decide ((entryS (rootN 5 0 4096) 1 ⟨#[46, 46]⟩) = 1))) && (!(checkS (rootN 5 0 4096) 1))) = true from by kernel_rfl]), hw.base_below 6 rfl⟩

end Go.Proofs.Ytfhhggcdmgjbcaa.Sx
