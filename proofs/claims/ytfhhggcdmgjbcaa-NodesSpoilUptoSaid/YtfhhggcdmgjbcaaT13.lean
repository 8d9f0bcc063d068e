/-
  A part of the walk of the seat: laws of a small proof system, and contracts of functions, each proved. Conditions: as each theorem says.
-/
import Derived.Test.YtfhhggcdmgjbcaaProg
import Derived.Test.YtfhhggcdmgjbcaaT12
namespace Go.Proofs.Ytfhhggcdmgjbcaa.Sx
open Go Go.RowKit Go.Proofs

set_option maxHeartbeats 8000000 in
theorem entriesSize_calls {p : Option Addr} {es : List Entry} {cap : Nat} {w : World} (hE : EntriesAt (Low w) w p es) (hl : es.length ≤ 140737488355328) (hW : ∀ i, EntryWf (en es i)) :
  Calls Try.prog 153 #[.slice p es.length cap] w (RetN w (fun v : Int => 0 ≤ v ∧ v ≤ 562949953421312) (fun v => .int .i64 v) (fun _ => [])) := by
 refine calls_ofQ (args := [_]) [base w (Low w)] Try.func153 (by kernel_rfl) (by kernel_rfl) (Heap.start w) ?_
 intro Q hQ
 refine Ev.sr 1 ?_
 refine Rg.ac 2 (.int .i64 0) ?_
 refine Rg.nx (fun _ _ h => h) [2,0] rfl ?_
 refine Ev.sr 3 ?_
 refine Rg.mv 5 0 rfl ?_
 refine Rg.p 6 (.call { callee := .builtin .len, args := #[.tmp 5], argTypes := #[42] }) (pv_len_slice rfl (by kernel_rfl)) ?_
 refine Rg.as 3 6 rfl ?_
 refine Rg.nx (fun _ _ h => h) [3,2,0] rfl ?_
 refine Ev.sq ?_
 refine Ev.sr 1 ?_
 refine Rg.ac 4 (.int .i64 0) ?_
 refine Rg.nx (fun _ _ h => h) [4,3,2,0] rfl ?_
 refine Ev.bk 0 ?_
 refine ev_loop (T := Nat × Int) (fun x_ => (fun k v => [(0, .slice p es.length cap), (3, .int .i64 v), (4, .int .i64 (k : Int))]) x_.1 x_.2) (fun x_ => (fun k v => [base w (Low w)]) x_.1 x_.2) (fun x_ => (fun k v => k ≤ es.length ∧ 0 ≤ v ∧ v ≤ 562949953421312) x_.1 x_.2) (fun x_ => (fun k v => es.length - k) x_.1 x_.2) (0, (es.length : Int)) [0] (by kernel_rfl) ⟨Nat.zero_le _, (by show (0 : Int) ≤ (es.length : Int); omega), (by show (es.length : Int) ≤ 562949953421312; omega)⟩ (.cons (rfl) (.cons (rfl) (.cons (rfl) (.nil _)))) rfl (by decide) ?_
 rintro ⟨k, v⟩ ⟨(hk : k ≤ es.length), (hv0 : 0 ≤ v), (hv1 : v ≤ 562949953421312)⟩
 show Ev _ _ [(0, .slice p es.length cap), (3, .int .i64 v), (4, .int .i64 (k : Int))] [base w (Low w)] _
 have hn := (hW k).name
 refine Ev.sq ?_
 refine Ev.sr 8 ?_
 refine Rg.mv 7 4 rfl ?_
 refine Rg.mv 8 0 rfl ?_
 refine Rg.p 9 (.call { callee := .builtin .len, args := #[.tmp 8], argTypes := #[42] }) (pv_len_slice rfl (by kernel_rfl)) ?_
 refine Rg.p 10 (.binOp .lss 3 (.tmp 7) (.tmp 9) 3) (pv_lss rfl rfl) ?_
 refine Rg.mv 11 10 rfl ?_
 refine Rg.ga 8 14 11 (decide (v ≤ 1048576)) rfl (fun h1 => ?_) (fun h1 => ?_) ?_
 ·
  have h2 := of_decide_eq_true h1
  refine Rg.pg 4 true 12 (.move (.tmp 3)) (pv_move rfl) ?_
  refine Rg.pg 4 true 13 (.binOp .leq 3 (.tmp 12) (.const (.int .i64 1048576)) 3) (pv_leq rfl rfl) ?_
  refine Rg.p 14 (.pick (.tmp 11) (.tmp 13) (.const (.bool false))) (pv_pick_t rfl rfl) ?_
  exact Rg.em 11 h1 (at_t h1) rfl rfl
 ·
  refine Rg.skips 7 (by kernel_rfl) ?_
  refine Rg.p 14 (.pick (.tmp 11) (.tmp 13) (.const (.bool false))) (pv_pick_f rfl rfl) ?_
  exact Rg.em 11 h1 (at_f h1) rfl rfl
 refine Rg.nx (fun _ _ h => h) [14,11,10,9,8,7,4,3,0] rfl ?_
 refine Ev.cd 14 rfl (fun h3 => ?_) (fun h3 => ?_)
 ·
  have ⟨h4, h5⟩ := and_t h3
  have h6 := of_decide_eq_true h4
  have h7 := of_decide_eq_true h5
  refine Ev.sk ?_
  refine At.nx (fun _ _ h => h) [14,11,10,9,8,7,4,3,0] rfl ?_
  refine Ev.sq ?_
  refine Ev.bk 1 ?_
  refine Ev.rg 9 ?_
  refine Rg.mv 17 3 rfl ?_
  refine Rg.mv 18 0 rfl ?_
  refine Rg.mv 19 4 rfl ?_
  have ⟨q1, o2, hp3⟩ := hE.adr (by omega)
  refine Rg.p 20 (.indexAddr 42 (.tmp 18) (.tmp 19)) (v := .pointer (some ⟨q1, o2 + ((k : Int)).toNat * 3, none⟩)) (pv_indexAddr' rfl hp3 rfl (e := 50) (sz := 3) (by kernel_rfl) (by omega) (by omega)) ?_
  refine Rg.fa 21 50 20 0 0 rfl ?_
  refine Rg.p 22 (.load 9 (.tmp 21)) (v := .string ((en es k).name)) (pv_load rfl (by kernel_rfl) (fun w hw => ((hE).keep (hw.at_ 0 rfl) (fun k hk => hw.lt 0 rfl hk)).cell _ _ hp3 _ (by omega) 0 (by decide))) ?_
  refine Rg.p 23 (.call { callee := .builtin .len, args := #[.tmp 22], argTypes := #[9] }) (pv_len_string rfl (by kernel_rfl)) ?_
  refine Rg.p 24 (.binOp .add 3 (.tmp 17) (.tmp 23) 3) (pv_addb rfl rfl (in_i64 (by omega) (by omega))) ?_
  refine Rg.as 3 24 rfl ?_
  refine Rg.nx (fun _ _ h => h) [24,23,22,21,20,19,18,17,14,11,10,9,8,7,4,3,0] rfl ?_
  refine Ev.rg 3 ?_
  refine Rg.mv 15 4 rfl ?_
  refine Rg.p 16 (.binOp .add 3 (.tmp 15) (.const (.int .i64 1)) 3) (pv_addb rfl rfl (in_i64 (by omega) (by omega))) ?_
  refine Rg.as 4 16 rfl ?_
  refine Rg.fin rfl ?_
  refine At.round (t := (k, v)) (fun _ _ h => h) (k + 1, v + ((en es k).name.size : Int)) [0] ⟨(by show k + 1 ≤ es.length; omega), (by show 0 ≤ v + _; omega), (by show v + _ ≤ 562949953421312; omega)⟩ (by show es.length - (k + 1) < es.length - k; omega) (.cons (rfl) (.cons (rfl) (.cons (rfl) (.nil _)))) rfl (by decide)
 ·
  refine Ev.xt 0 ?_
  refine At.nx (fun _ _ h => h) [3] rfl ?_
  refine Ev.sr 2 ?_
  refine Rg.mv 25 3 rfl ?_
  refine Rg.as 2 25 rfl ?_
  refine Rg.nx (fun _ _ h => h) [2] rfl ?_
  refine Ev.rt ?_
  refine At.via (Q := Q) hQ ?_
  refine At.ret1 rfl rfl rfl ?_
  exact fun w hw => ⟨v, ⟨by omega, by omega⟩, rfl, hw.pick [0] (by decide)⟩

set_option maxHeartbeats 8000000 in
theorem bytesSize_calls {p : Option Addr} {n c : Nat} {w : World} :
  Calls Try.prog 136 #[.slice p n c] w (Ret w (.int .i64 (n : Int))) := by
 refine calls_ofQ (args := [_]) [base w (Low w)] Try.func136 (by kernel_rfl) (by kernel_rfl) (Heap.start w) ?_
 intro Q hQ
 refine Ev.sr 1 ?_
 refine Rg.ac 2 (.int .i64 0) ?_
 refine Rg.nx (fun _ _ h => h) [2,0] rfl ?_
 refine Ev.sr 3 ?_
 refine Rg.mv 3 0 rfl ?_
 refine Rg.p 4 (.call { callee := .builtin .len, args := #[.tmp 3], argTypes := #[29] }) (pv_len_slice rfl (by kernel_rfl)) ?_
 refine Rg.as 2 4 rfl ?_
 refine Rg.nx (fun _ _ h => h) [2] rfl ?_
 refine Ev.rt ?_
 refine At.via (Q := Q) hQ ?_
 refine At.ret1 rfl rfl rfl ?_
 exact fun w hw => ⟨rfl, hw.base_below 0 rfl⟩

set_option maxHeartbeats 8000000 in
theorem nodeSize_calls {n : Node} {a : Loc} {w : World} (hN : NodeAt (Low w) w n a) (hW : NodeWf n) :
  Calls Try.prog 121 #[.agg (n.cells a)] w (RetN w (fun v : Int => 0 ≤ v ∧ v ≤ 1125899906842624) (fun v => .int .i64 v) (fun _ => [])) := by
 refine calls_ofQ (args := [_]) [base w (Low w)] Try.func121 (by kernel_rfl) (by kernel_rfl) (Heap.start w) ?_
 intro Q hQ
 have ht := hW.target
 have hd := hW.data
 have hl := hW.list
 refine Ev.sr 2 ?_
 refine Rg.bx 1 44 (.tmp 0) rfl fun b1 => ?_
 refine Rg.ac 2 (.int .i64 0) ?_
 refine Rg.nx (fun _ _ h => h) [2,1] rfl ?_
 refine Ev.sr 5 ?_
 refine Rg.fa 4 44 1 11 21 rfl ?_
 refine Rg.ld 5 9 4 0 rfl rfl rfl ?_
 refine Rg.p 6 (.call { callee := .builtin .len, args := #[.tmp 5], argTypes := #[9] }) (pv_len_string rfl (by kernel_rfl)) ?_
 refine Rg.p 7 (.binOp .add 3 (.const (.int .i64 1)) (.tmp 6) 3) (pv_addb rfl rfl (in_i64 (by omega) (by omega))) ?_
 refine Rg.as 3 7 rfl ?_
 refine Rg.nx (fun _ _ h => h) [3,2,1] rfl ?_
 refine Ev.sq ?_
 refine Ev.sr 2 ?_
 refine Rg.mv 8 3 rfl ?_
 refine Rg.p 9 (.binOp .leq 3 (.tmp 8) (.const (.int .i64 1048576)) 3) (pv_leq rfl rfl) ?_
 refine Rg.nx (fun _ _ h => h) [9,3,2,1] rfl ?_
 refine Ev.cd 9 rfl (fun h1 => ?_) (fun h1 => ?_)
 ·
  have h2 := of_decide_eq_true h1
  refine Ev.rg 6 ?_
  refine Rg.mv 10 3 rfl ?_
  refine Rg.fa 11 44 1 9 12 rfl ?_
  refine Rg.ld 12 29 11 0 rfl rfl rfl ?_
  refine Rg.cl (some 13) 136 #[.tmp 12] #[29] (v := .int .i64 (n.data.length : Int)) rfl (fun w hw => bytesSize_calls) ?_
  refine Rg.p 14 (.binOp .add 3 (.tmp 10) (.tmp 13) 3) (pv_addb rfl rfl (in_i64 (by omega) (by omega))) ?_
  refine Rg.as 3 14 rfl ?_
  refine Rg.nx (fun _ _ h => h) [3,2,1] rfl ?_
  refine Ev.sq ?_
  refine Ev.sr 2 ?_
  refine Rg.mv 15 3 rfl ?_
  refine Rg.p 16 (.binOp .leq 3 (.tmp 15) (.const (.int .i64 1048576)) 3) (pv_leq rfl rfl) ?_
  refine Rg.nx (fun _ _ h => h) [16,3,2,1] rfl ?_
  refine Ev.cd 16 rfl (fun h3 => ?_) (fun h3 => ?_)
  ·
   have h4 := of_decide_eq_true h3
   refine Ev.rg 6 ?_
   refine Rg.mv 17 3 rfl ?_
   refine Rg.fa 18 44 1 12 22 rfl ?_
   refine Rg.ld 19 42 18 0 rfl rfl rfl ?_
   refine Rg.cn (T := Int) (some 20) 153 #[.tmp 19] #[42] (v := fun v2 => .int .i64 v2) (L := fun v2 => []) rfl (fun w hw => entriesSize_calls (((hN).list).keep (hw.at_ 1 rfl) (fun k hk => hw.lt 1 rfl hk)) hW.list hW.entry) ?_
   rintro v2 ⟨h0_v2, h1_v2⟩
   dsimp only [putE, List.append, HAppend.hAppend, Append.append]
   refine Rg.p 21 (.binOp .add 3 (.tmp 17) (.tmp 20) 3) (pv_addb rfl rfl (in_i64 (by omega) (by omega))) ?_
   refine Rg.as 3 21 rfl ?_
   refine Rg.nx (fun _ _ h => h) [3,2] rfl ?_
   refine Ev.sr 2 ?_
   refine Rg.mv 22 3 rfl ?_
   refine Rg.as 2 22 rfl ?_
   refine Rg.nx (fun _ _ h => h) [2] rfl ?_
   refine Ev.rt ?_
   refine At.via (Q := Q) hQ ?_
   refine At.ret1 rfl rfl rfl ?_
   exact fun w hw => ⟨((1 + (n.target.size : Int)) + (n.data.length : Int)) + v2, ⟨by omega, by omega⟩, rfl, hw.pick [1] (by decide)⟩
  ·
   have h5 := of_decide_eq_false h3
   refine Ev.sk ?_
   refine At.nx (fun _ _ h => h) [3,2] rfl ?_
   refine Ev.sr 2 ?_
   refine Rg.mv 22 3 rfl ?_
   refine Rg.as 2 22 rfl ?_
   refine Rg.nx (fun _ _ h => h) [2] rfl ?_
   refine Ev.rt ?_
   refine At.via (Q := Q) hQ ?_
   refine At.ret1 rfl rfl rfl ?_
   exact fun w hw => ⟨(1 + (n.target.size : Int)) + (n.data.length : Int), ⟨by omega, by omega⟩, rfl, hw.pick [1] (by decide)⟩
 ·
  have h6 := of_decide_eq_false h1
  refine Ev.sk ?_
  refine At.nx (fun _ _ h => h) [3,2,1] rfl ?_
  refine Ev.sq ?_
  refine Ev.sr 2 ?_
  refine Rg.mv 15 3 rfl ?_
  refine Rg.p 16 (.binOp .leq 3 (.tmp 15) (.const (.int .i64 1048576)) 3) (pv_leq rfl rfl) ?_
  refine Rg.nx (fun _ _ h => h) [16,3,2,1] rfl ?_
  refine Ev.cd 16 rfl (fun h7 => ?_) (fun h7 => ?_)
  ·
   have h8 := of_decide_eq_true h7
   refine Ev.rg 6 ?_
   refine Rg.mv 17 3 rfl ?_
   refine Rg.fa 18 44 1 12 22 rfl ?_
   refine Rg.ld 19 42 18 0 rfl rfl rfl ?_
   refine Rg.cn (T := Int) (some 20) 153 #[.tmp 19] #[42] (v := fun v3 => .int .i64 v3) (L := fun v3 => []) rfl (fun w hw => entriesSize_calls (((hN).list).keep (hw.at_ 1 rfl) (fun k hk => hw.lt 1 rfl hk)) hW.list hW.entry) ?_
   rintro v3 ⟨h0_v3, h1_v3⟩
   dsimp only [putE, List.append, HAppend.hAppend, Append.append]
   refine Rg.p 21 (.binOp .add 3 (.tmp 17) (.tmp 20) 3) (pv_addb rfl rfl (in_i64 (by omega) (by omega))) ?_
   refine Rg.as 3 21 rfl ?_
   refine Rg.nx (fun _ _ h => h) [3,2] rfl ?_
   refine Ev.sr 2 ?_
   refine Rg.mv 22 3 rfl ?_
   refine Rg.as 2 22 rfl ?_
   refine Rg.nx (fun _ _ h => h) [2] rfl ?_
   refine Ev.rt ?_
   refine At.via (Q := Q) hQ ?_
   refine At.ret1 rfl rfl rfl ?_
   exact fun w hw => ⟨(1 + (n.target.size : Int)) + v3, ⟨by omega, by omega⟩, rfl, hw.pick [1] (by decide)⟩
  ·
   have h9 := of_decide_eq_false h7
   refine Ev.sk ?_
   refine At.nx (fun _ _ h => h) [3,2] rfl ?_
   refine Ev.sr 2 ?_
   refine Rg.mv 22 3 rfl ?_
   refine Rg.as 2 22 rfl ?_
   refine Rg.nx (fun _ _ h => h) [2] rfl ?_
   refine Ev.rt ?_
   refine At.via (Q := Q) hQ ?_
   refine At.ret1 rfl rfl rfl ?_
   exact fun w hw => ⟨1 + (n.target.size : Int), ⟨by omega, by omega⟩, rfl, hw.pick [1] (by decide)⟩

set_option maxHeartbeats 8000000 in
theorem nodesSize_calls {p : Option Addr} {ns : List Node} {al : List Loc} {cap : Nat} {w : World} (hT : NodesAt (Low w) w p ns al) (hW : NodesWf ns) :
  Calls Try.prog 81 #[.slice p ns.length cap] w (RetN w (fun v : Int => 0 ≤ v ∧ v ≤ 2251799813685248) (fun v => .int .i64 v) (fun _ => [])) := by
 refine calls_ofQ (args := [_]) [base w (Low w)] Try.func81 (by kernel_rfl) (by kernel_rfl) (Heap.start w) ?_
 intro Q hQ
 have hlen := hW.len
 refine Ev.sr 1 ?_
 refine Rg.ac 2 (.int .i64 0) ?_
 refine Rg.nx (fun _ _ h => h) [2,0] rfl ?_
 refine Ev.sr 3 ?_
 refine Rg.mv 5 0 rfl ?_
 refine Rg.p 6 (.call { callee := .builtin .len, args := #[.tmp 5], argTypes := #[22] }) (pv_len_slice rfl (by kernel_rfl)) ?_
 refine Rg.as 3 6 rfl ?_
 refine Rg.nx (fun _ _ h => h) [3,2,0] rfl ?_
 refine Ev.sq ?_
 refine Ev.sr 1 ?_
 refine Rg.ac 4 (.int .i64 0) ?_
 refine Rg.nx (fun _ _ h => h) [4,3,2,0] rfl ?_
 refine Ev.bk 0 ?_
 refine ev_loop (T := Nat × Int) (fun x_ => (fun k v => [(0, .slice p ns.length cap), (3, .int .i64 v), (4, .int .i64 (k : Int))]) x_.1 x_.2) (fun x_ => (fun k v => [base w (Low w)]) x_.1 x_.2) (fun x_ => (fun k v => k ≤ ns.length ∧ 0 ≤ v ∧ v ≤ 2251799813685248) x_.1 x_.2) (fun x_ => (fun k v => ns.length - k) x_.1 x_.2) (0, (ns.length : Int)) [0] (by kernel_rfl) ⟨Nat.zero_le _, (by show (0 : Int) ≤ (ns.length : Int); omega), (by show (ns.length : Int) ≤ 2251799813685248; omega)⟩ (.cons (rfl) (.cons (rfl) (.cons (rfl) (.nil _)))) rfl (by decide) ?_
 rintro ⟨k, v⟩ ⟨(hk : k ≤ ns.length), (hv0 : 0 ≤ v), (hv1 : v ≤ 2251799813685248)⟩
 show Ev _ _ [(0, .slice p ns.length cap), (3, .int .i64 v), (4, .int .i64 (k : Int))] [base w (Low w)] _
 refine Ev.sq ?_
 refine Ev.sr 8 ?_
 refine Rg.mv 7 4 rfl ?_
 refine Rg.mv 8 0 rfl ?_
 refine Rg.p 9 (.call { callee := .builtin .len, args := #[.tmp 8], argTypes := #[22] }) (pv_len_slice rfl (by kernel_rfl)) ?_
 refine Rg.p 10 (.binOp .lss 3 (.tmp 7) (.tmp 9) 3) (pv_lss rfl rfl) ?_
 refine Rg.mv 11 10 rfl ?_
 refine Rg.ga 8 14 11 (decide (v ≤ 1048576)) rfl (fun h1 => ?_) (fun h1 => ?_) ?_
 ·
  have h2 := of_decide_eq_true h1
  refine Rg.pg 4 true 12 (.move (.tmp 3)) (pv_move rfl) ?_
  refine Rg.pg 4 true 13 (.binOp .leq 3 (.tmp 12) (.const (.int .i64 1048576)) 3) (pv_leq rfl rfl) ?_
  refine Rg.p 14 (.pick (.tmp 11) (.tmp 13) (.const (.bool false))) (pv_pick_t rfl rfl) ?_
  exact Rg.em 11 h1 (at_t h1) rfl rfl
 ·
  refine Rg.skips 7 (by kernel_rfl) ?_
  refine Rg.p 14 (.pick (.tmp 11) (.tmp 13) (.const (.bool false))) (pv_pick_f rfl rfl) ?_
  exact Rg.em 11 h1 (at_f h1) rfl rfl
 refine Rg.nx (fun _ _ h => h) [14,11,10,9,8,7,4,3,0] rfl ?_
 refine Ev.cd 14 rfl (fun h3 => ?_) (fun h3 => ?_)
 ·
  have ⟨h4, h5⟩ := and_t h3
  have h6 := of_decide_eq_true h4
  have h7 := of_decide_eq_true h5
  refine Ev.sk ?_
  refine At.nx (fun _ _ h => h) [14,11,10,9,8,7,4,3,0] rfl ?_
  refine Ev.sq ?_
  refine Ev.bk 1 ?_
  refine Ev.rg 8 ?_
  refine Rg.mv 17 3 rfl ?_
  refine Rg.mv 18 0 rfl ?_
  refine Rg.mv 19 4 rfl ?_
  have ⟨q1, o2, hp3⟩ := hT.rows.adr (by omega)
  refine Rg.p 20 (.indexAddr 22 (.tmp 18) (.tmp 19)) (v := .pointer (some ⟨q1, o2 + ((k : Int)).toNat * 25, none⟩)) (pv_indexAddr' rfl hp3 rfl (e := 44) (sz := 25) (by kernel_rfl) (by omega) (by omega)) ?_
  refine Rg.p 21 (.load 44 (.tmp 20)) (v := .agg ((nd ns k).cells (lc al k))) (pv_load_node (i := ((k : Int)).toNat) (ns := ns) rfl hp3 (by omega) (by kernel_rfl) (by kernel_rfl) (fun w hw => ((hT).keep (hw.at_ 0 rfl) (fun k hk => hw.lt 0 rfl hk)))) ?_
  refine Rg.cn (T := Int) (some 22) 121 #[.tmp 21] #[44] (v := fun v4 => .int .i64 v4) (L := fun v4 => []) rfl (fun w hw => nodeSize_calls (((hT.node k (by omega))).keep (hw.at_ 0 rfl) (fun k hk => hw.lt 0 rfl hk)) (hW.node _)) ?_
  rintro v4 ⟨h0_v4, h1_v4⟩
  dsimp only [putE, List.append, HAppend.hAppend, Append.append]
  refine Rg.p 23 (.binOp .add 3 (.tmp 17) (.tmp 22) 3) (pv_addb rfl rfl (in_i64 (by omega) (by omega))) ?_
  refine Rg.as 3 23 rfl ?_
  refine Rg.nx (fun _ _ h => h) [23,22,21,20,19,18,17,14,11,10,9,8,7,4,3,0] rfl ?_
  refine Ev.rg 3 ?_
  refine Rg.mv 15 4 rfl ?_
  refine Rg.p 16 (.binOp .add 3 (.tmp 15) (.const (.int .i64 1)) 3) (pv_addb rfl rfl (in_i64 (by omega) (by omega))) ?_
  refine Rg.as 4 16 rfl ?_
  refine Rg.fin rfl ?_
  refine At.round (t := (k, v)) (fun _ _ h => h) (k + 1, v + v4) [0] ⟨(by show k + 1 ≤ ns.length; omega), (by show 0 ≤ v + _; omega), (by show v + _ ≤ 2251799813685248; omega)⟩ (by show ns.length - (k + 1) < ns.length - k; omega) (.cons (rfl) (.cons (rfl) (.cons (rfl) (.nil _)))) rfl (by decide)
 ·
  refine Ev.xt 0 ?_
  refine At.nx (fun _ _ h => h) [3] rfl ?_
  refine Ev.sr 2 ?_
  refine Rg.mv 24 3 rfl ?_
  refine Rg.as 2 24 rfl ?_
  refine Rg.nx (fun _ _ h => h) [2] rfl ?_
  refine Ev.rt ?_
  refine At.via (Q := Q) hQ ?_
  refine At.ret1 rfl rfl rfl ?_
  exact fun w hw => ⟨v, ⟨by omega, by omega⟩, rfl, hw.pick [0] (by decide)⟩

set_option maxHeartbeats 8000000 in
theorem treeSize_calls {p : Option Addr} {ns : List Node} {al : List Loc} {cap : Nat} {gen : Int} {w : World} (hT : NodesAt (Low w) w p ns al) (hW : NodesWf ns) :
  Calls Try.prog 27 #[.agg #[.slice p ns.length cap, .int .u32 gen]] w (RetN w (fun v : Int => 0 ≤ v ∧ v ≤ 4503599627370496) (fun v => .int .i64 v) (fun _ => [])) := by
 refine calls_ofQ (args := [_]) [base w (Low w)] Try.func27 (by kernel_rfl) (by kernel_rfl) (Heap.start w) ?_
 intro Q hQ
 refine Ev.sr 2 ?_
 refine Rg.bx 1 25 (.tmp 0) rfl fun b1 => ?_
 refine Rg.ac 2 (.int .i64 0) ?_
 refine Rg.nx (fun _ _ h => h) [2,1] rfl ?_
 refine Ev.sr 1 ?_
 refine Rg.ac 3 (.int .i64 1) ?_
 refine Rg.nx (fun _ _ h => h) [3,2,1] rfl ?_
 refine Ev.sq ?_
 refine Ev.sr 2 ?_
 refine Rg.mv 4 3 rfl ?_
 refine Rg.p 5 (.binOp .leq 3 (.tmp 4) (.const (.int .i64 1048576)) 3) (pv_leq rfl rfl) ?_
 refine Rg.know 5 (b := decide (1 ≤ 1048576)) (c := true) rfl (by decide) ?_
 refine Rg.nx (fun _ _ h => h) [5,3,2,1] rfl ?_
 refine ev_cond_t (t := 5) (by kernel_rfl) rfl ?_
 refine Ev.rg 6 ?_
 refine Rg.mv 6 3 rfl ?_
 refine Rg.fa 7 25 1 0 0 rfl ?_
 refine Rg.ld 8 22 7 0 rfl rfl rfl ?_
 refine Rg.cn (T := Int) (some 9) 81 #[.tmp 8] #[22] (v := fun v2 => .int .i64 v2) (L := fun v2 => []) rfl (fun w hw => nodesSize_calls ((hT).keep (hw.at_ 1 rfl) (fun k hk => hw.lt 1 rfl hk)) hW) ?_
 rintro v2 ⟨h0_v2, h1_v2⟩
 dsimp only [putE, List.append, HAppend.hAppend, Append.append]
 refine Rg.p 10 (.binOp .add 3 (.tmp 6) (.tmp 9) 3) (pv_addb rfl rfl (in_i64 (by omega) (by omega))) ?_
 refine Rg.as 3 10 rfl ?_
 refine Rg.nx (fun _ _ h => h) [3,2] rfl ?_
 refine Ev.sr 2 ?_
 refine Rg.mv 11 3 rfl ?_
 refine Rg.as 2 11 rfl ?_
 refine Rg.nx (fun _ _ h => h) [2] rfl ?_
 refine Ev.rt ?_
 refine At.via (Q := Q) hQ ?_
 refine At.ret1 rfl rfl rfl ?_
 exact fun w hw => ⟨1 + v2, ⟨by omega, by omega⟩, rfl, hw.pick [1] (by decide)⟩

set_option maxHeartbeats 8000000 in
theorem great_calls {p : Option Addr} {ns : List Node} {al : List Loc} {cap : Nat} {gen : Int} {w : World} (hT : NodesAt (Low w) w p ns al) (hW : NodesWf ns) :
  Calls Try.prog 14 #[.agg #[.slice p ns.length cap, .int .u32 gen]] w (RetN w (fun _ : Bool => True) (fun b => .bool b) (fun _ => [])) := by
 refine calls_ofQ (args := [_]) [base w (Low w)] Try.func14 (by kernel_rfl) (by kernel_rfl) (Heap.start w) ?_
 intro Q hQ
 have hlen := hW.len
 refine Ev.sr 2 ?_
 refine Rg.bx 1 25 (.tmp 0) rfl fun b1 => ?_
 refine Rg.ac 2 (.bool false) ?_
 refine Rg.nx (fun _ _ h => h) [2,1] rfl ?_
 refine Ev.sr 10 ?_
 refine Rg.p 3 (.load 25 (.tmp 1)) (v := .agg #[.slice p ns.length cap, .int .u32 gen]) (pv_load_blk_whole 0 rfl rfl (by kernel_rfl) (by kernel_rfl)) ?_
 refine Rg.cn (T := Int) (some 4) 27 #[.tmp 3] #[25] (v := fun v2 => .int .i64 v2) (L := fun v2 => []) rfl (fun w hw => treeSize_calls ((hT).keep (hw.at_ 1 rfl) (fun k hk => hw.lt 1 rfl hk)) hW) ?_
 rintro v2 ⟨h0_v2, h1_v2⟩
 dsimp only [putE, List.append, HAppend.hAppend, Append.append]
 refine Rg.p 5 (.binOp .gtr 3 (.tmp 4) (.const (.int .i64 60000)) 3) (pv_gtr rfl rfl) ?_
 refine Rg.mv 6 5 rfl ?_
 refine Rg.go 9 11 6 (decide (1300 < (ns.length : Int))) rfl (fun h1 => ?_) (fun h1 => ?_) ?_
 ·
  refine Rg.skips 8 (by kernel_rfl) ?_
  refine Rg.p 11 (.pick (.tmp 6) (.const (.bool true)) (.tmp 10)) (pv_pick_t rfl rfl) ?_
  exact Rg.em 6 h1 (ot_t h1) rfl rfl
 ·
  have h2 := of_decide_eq_false h1
  refine Rg.pg 3 false 7 (.fieldAddr 25 (.tmp 1) 0) (pv_fieldAddr rfl (n := 0) (by kernel_rfl)) ?_
  refine Rg.pg 3 false 8 (.load 22 (.tmp 7)) (v := .slice p ns.length cap) (pv_load_blk 0 rfl rfl (by kernel_rfl) rfl) ?_
  refine Rg.pg 3 false 9 (.call { callee := .builtin .len, args := #[.tmp 8], argTypes := #[22] }) (pv_len_slice rfl (by kernel_rfl)) ?_
  refine Rg.pg 3 false 10 (.binOp .gtr 3 (.tmp 9) (.const (.int .i64 1300)) 3) (pv_gtr rfl rfl) ?_
  refine Rg.p 11 (.pick (.tmp 6) (.const (.bool true)) (.tmp 10)) (pv_pick_f rfl rfl) ?_
  exact Rg.em 6 h1 (ot_f h1) rfl rfl
 refine Rg.as 2 11 rfl ?_
 refine Rg.nx (fun _ _ h => h) [2] rfl ?_
 refine Ev.rt ?_
 refine At.via (Q := Q) hQ ?_
 refine At.ret1 rfl rfl rfl ?_
 exact fun w hw => ⟨_, trivial, rfl, hw.pick [1] (by decide)⟩

set_option maxHeartbeats 8000000 in
theorem entry1_calls {s name : ByteArray} {m ck : Int} {bx : Nat} {w : World} (hX : w.heap[bx]? = some (.cells #[.string name] 9 (0, 0))) :
  Calls Try.prog 65 #[.agg #[.string s, .int .i64 m, .int .u64 ck], .pointer (some ⟨bx, 0, none⟩)] w (Ret w (.bool (decide (s = name)))) := by
 refine calls_ofQ (args := [_, _]) [base w (Low w)] Try.func65 (by kernel_rfl) (by kernel_rfl) (Heap.start w) ?_
 intro Q hQ
 refine Ev.sr 2 ?_
 refine Rg.bx 2 50 (.tmp 0) rfl fun b1 => ?_
 refine Rg.ac 3 (.bool false) ?_
 refine Rg.nx (fun _ _ h => h) [3,2,1] rfl ?_
 refine Ev.sr 5 ?_
 refine Rg.fa 4 50 2 0 0 rfl ?_
 refine Rg.ld 5 9 4 0 rfl rfl rfl ?_
 refine Rg.p 6 (.load 9 (.tmp 1)) (v := .string name) (pv_load_base 1 rfl rfl rfl hX (by kernel_rfl) rfl) ?_
 refine Rg.p 7 (.binOp .eql 9 (.tmp 5) (.tmp 6) 9) (pv_eql_str rfl rfl) ?_
 refine Rg.as 3 7 rfl ?_
 refine Rg.nx (fun _ _ h => h) [3] rfl ?_
 refine Ev.rt ?_
 refine At.via (Q := Q) hQ ?_
 refine At.ret1 rfl rfl rfl ?_
 exact fun w hw => ⟨rfl, hw.base_below 1 rfl⟩

def idxE (es : List Entry) (name : ByteArray) : Int := match (List.range es.length).find? fun i => decide ((en es i).name = name) with | some i => (i : Int) | none => -1
theorem idxE_some {es : List Entry} {name : ByteArray} {k : Nat} (hk : k < es.length) (h : (en es k).name = name) (hno : ∀ i, i < k → (en es i).name ≠ name) : idxE es name = k := by
  have : (List.range es.length).find? (fun i => decide ((en es i).name = name)) = some k := by
    rw [List.find?_range_eq_some]
    exact ⟨by simpa using h, List.mem_range.2 hk, fun j hj => by simpa using hno j hj⟩
  simp [idxE, this]
theorem idxE_none {es : List Entry} {name : ByteArray} (hno : ∀ i, i < es.length → (en es i).name ≠ name) : idxE es name = -1 := by
  have : (List.range es.length).find? (fun i => decide ((en es i).name = name)) = none := by
    rw [List.find?_eq_none]
    intro i hi
    simpa using hno i (List.mem_range.1 hi)
  simp [idxE, this]
theorem idxE_range (es : List Entry) (name : ByteArray) : idxE es name = -1 ∨ (0 ≤ idxE es name ∧ idxE es name < (es.length : Int)) := by
  unfold idxE
  cases h : (List.range es.length).find? (fun i => decide ((en es i).name = name)) with
  | none => exact .inl rfl
  | some i =>
    have := List.mem_of_find?_eq_some h
    simp only [List.mem_range] at this
    right; simp; omega

set_option maxHeartbeats 8000000 in
theorem indexFuncE_calls {p : Option Addr} {es : List Entry} {cap : Nat} {w : World} (hE : EntriesAt (Low w) w p es) (hl : es.length ≤ 140737488355328) {bx : Nat} {name : ByteArray} (hX : w.heap[bx]? = some (.cells #[.string name] 9 (0, 0))) :
  Calls Try.prog 64 #[.slice p es.length cap, .func (.func 65) #[] #[.pointer (some ⟨bx, 0, none⟩)]] w (Ret w (.int .i64 (idxE es name))) := by
 refine calls_ofQ (args := [_, _]) [base w (Low w)] Try.func64 (by kernel_rfl) (by kernel_rfl) (Heap.start w) ?_
 intro Q hQ
 refine Ev.sr 1 ?_
 refine Rg.ac 4 (.int .i64 0) ?_
 refine Rg.nx (fun _ _ h => h) [4,1,0] rfl ?_
 refine Ev.sq ?_
 refine Ev.sr 3 ?_
 refine Rg.mv 6 0 rfl ?_
 refine Rg.p 7 (.call { callee := .builtin .len, args := #[.tmp 6], argTypes := #[42] }) (pv_len_slice rfl (by kernel_rfl)) ?_
 refine Rg.mc 8 (.int .i64 0) ?_
 refine Rg.nx (fun _ _ h => h) [8,7,4,1,0] rfl ?_
 refine Ev.bk 0 ?_
 refine ev_loop (T := Nat) (fun k => [(0, .slice p es.length cap), (1, .func (.func 65) #[] #[.pointer (some ⟨bx, 0, none⟩)]), (4, .int .i64 0), (7, .int .i64 (es.length : Int)), (8, .int .i64 (k : Int))]) (fun k => [base w (Low w)]) (fun k => k ≤ es.length ∧ ∀ i_, i_ < k → (en es i_).name ≠ name) (fun k => es.length - k) 0 [0] (by kernel_rfl) ⟨Nat.zero_le _, fun i_ h_ => absurd h_ (Nat.not_lt_zero _)⟩ (.cons (rfl) (.cons (rfl) (.cons (rfl) (.cons (rfl) (.cons (rfl) (.nil _)))))) rfl (by decide) ?_
 rintro k ⟨(hk : k ≤ es.length), (hno : ∀ i_, i_ < k → (en es i_).name ≠ name)⟩
 show Ev _ _ [(0, .slice p es.length cap), (1, .func (.func 65) #[] #[.pointer (some ⟨bx, 0, none⟩)]), (4, .int .i64 0), (7, .int .i64 (es.length : Int)), (8, .int .i64 (k : Int))] [base w (Low w)] _
 refine Ev.sr 1 ?_
 refine Rg.p 9 (.binOp .lss 3 (.tmp 8) (.tmp 7) 3) (pv_lss rfl rfl) ?_
 refine Rg.nx (fun _ _ h => h) [9,8,7,4,1,0] rfl ?_
 refine Ev.sq ?_
 refine Ev.cd 9 rfl (fun h1 => ?_) (fun h1 => ?_)
 ·
  have h2 := of_decide_eq_true h1
  refine Ev.sk ?_
  refine At.nx (fun _ _ h => h) [9,8,7,4,1,0] rfl ?_
  refine Ev.sq ?_
  refine Ev.bk 1 ?_
  refine Ev.sr 2 ?_
  refine Rg.mv 10 8 rfl ?_
  refine Rg.as 5 10 rfl ?_
  refine Rg.nx (fun _ _ h => h) [10,9,8,7,5,4,1,0] rfl ?_
  refine Ev.sr 6 ?_
  refine Rg.mv 11 1 rfl ?_
  refine Rg.mv 12 0 rfl ?_
  refine Rg.mv 13 5 rfl ?_
  have ⟨q1, o2, hp3⟩ := hE.adr (by omega)
  refine Rg.p 14 (.indexAddr 42 (.tmp 12) (.tmp 13)) (v := .pointer (some ⟨q1, o2 + ((k : Int)).toNat * 3, none⟩)) (pv_indexAddr' rfl hp3 rfl (e := 50) (sz := 3) (by kernel_rfl) (by omega) (by omega)) ?_
  refine Rg.p 15 (.load 50 (.tmp 14)) (v := .agg #[.string ((en es k).name), .int .i64 ((en es k).node), .int .u64 ((en es k).cookie)]) (pv_load_entry (i := ((k : Int)).toNat) (es := es) rfl hp3 (by omega) (by kernel_rfl) (by kernel_rfl) (fun w hw => ((hE).keep (hw.at_ 0 rfl) (fun k hk => hw.lt 0 rfl hk)))) ?_
  refine rg_callD (d := some 16) (f := 65) (fo := .tmp 11) (caps := #[.pointer (some ⟨bx, 0, none⟩)]) (xs := #[.tmp 15]) (ts := #[50]) (g := none) (v := .bool (decide ((en es k).name = name))) (by kernel_rfl) (by kernel_rfl) rfl (by kernel_rfl) rfl (fun w hw => entry1_calls (base_heap hw 0 rfl hX)) ?_
  refine Rg.nx (fun _ _ h => h) [16,15,14,13,12,11,10,9,8,7,5,4,1,0] rfl ?_
  refine Ev.cd 16 rfl (fun h3 => ?_) (fun h3 => ?_)
  ·
   have h4 := of_decide_eq_true h3
   refine Ev.sr 2 ?_
   refine Rg.mv 17 5 rfl ?_
   refine Rg.as 4 17 rfl ?_
   refine Rg.nx (fun _ _ h => h) [17,16,15,14,13,12,11,10,9,8,7,5,4,1,0] rfl ?_
   refine Ev.rt ?_
   refine At.via (Q := Q) hQ ?_
   refine At.ret1 rfl rfl rfl ?_
   exact fun w hw => ⟨(by rw [idxE_some (k := k) (by omega) (of_decide_eq_true h3) hno]), hw.base_below 0 rfl⟩
  ·
   have h5 := of_decide_eq_false h3
   refine Ev.sk ?_
   refine At.nx (fun _ _ h => h) [16,15,14,13,12,11,10,9,8,7,5,4,1,0] rfl ?_
   refine Ev.rg 2 ?_
   refine Rg.p 18 (.binOp .add 3 (.tmp 8) (.const (.int .i64 1)) 3) (pv_addb rfl rfl (in_i64 (by omega) (by omega))) ?_
   refine Rg.mv 8 18 rfl ?_
   refine Rg.fin rfl ?_
   refine At.round (fun _ _ h => h) (k + 1) [0] ⟨(by omega), (fun i_ h_ => by rcases Nat.lt_succ_iff_lt_or_eq.1 h_ with h1_ | h1_; exact hno i_ h1_; subst h1_; exact of_decide_eq_false h3)⟩ (by show es.length - (k + 1) < es.length - k; omega) (.cons (rfl) (.cons (rfl) (.cons (rfl) (.cons (rfl) (.cons (rfl) (.nil _)))))) rfl (by decide)
 ·
  have h6 := of_decide_eq_false h1
  refine Ev.xt 0 ?_
  refine At.nx (fun _ _ h => h) [4] rfl ?_
  refine Ev.sr 1 ?_
  refine Rg.ac 4 (.int .i64 (-1)) ?_
  refine Rg.nx (fun _ _ h => h) [4] rfl ?_
  refine Ev.rt ?_
  refine At.via (Q := Q) hQ ?_
  refine At.ret1 rfl rfl rfl ?_
  exact fun w hw => ⟨(by rw [idxE_none (fun i_ h_ => hno i_ (by omega))]), hw.base_below 0 rfl⟩

def dot : ByteArray := ⟨#[46]⟩
def dots : ByteArray := ⟨#[46, 46]⟩
def entryS (ns : List Node) (dir : Int) (name : ByteArray) : Int :=
  cond (!isS ns dir 2) 0 <| cond (decide (name = dot)) dir <| cond (decide (name = dots)) (nd ns dir.toNat).parent <|
  cond (decide (idxE (nd ns dir.toNat).list name < 0)) 0 (en (nd ns dir.toNat).list (idxE (nd ns dir.toNat).list name).toNat).node

set_option maxHeartbeats 8000000 in
theorem Entry_calls {dir : Int} {name : ByteArray} {p : Option Addr} {ns : List Node} {al : List Loc} {cap : Nat} {gen : Int} {w : World} (hT : NodesAt (Low w) w p ns al) (hW : NodesWf ns) :
  Calls Try.prog 21 #[.agg #[.slice p ns.length cap, .int .u32 gen], .int .i64 dir, .string name] w (Ret w (.int .i64 (entryS ns dir name))) := by
 refine calls_ofQ (args := [_, _, _]) [base w (Low w)] Try.func21 (by kernel_rfl) (by kernel_rfl) (Heap.start w) ?_
 intro Q hQ
 have hir := idxE_range (nd ns dir.toNat).list name
 refine Ev.sr 3 ?_
 refine Rg.bx 3 25 (.tmp 0) rfl fun b1 => ?_
 refine Rg.bx 5 9 (.tmp 2) rfl fun b2 => ?_
 refine Rg.ac 6 (.int .i64 0) ?_
 refine Rg.nx (fun _ _ h => h) [6,5,3,1] rfl ?_
 refine Ev.sq ?_
 refine Ev.sr 4 ?_
 refine Rg.p 9 (.load 25 (.tmp 3)) (v := .agg #[.slice p ns.length cap, .int .u32 gen]) (pv_load_blk_whole 1 rfl rfl (by kernel_rfl) (by kernel_rfl)) ?_
 refine Rg.mv 10 1 rfl ?_
 refine Rg.cl (some 11) 53 #[.tmp 9, .tmp 10, .const (.int .u32 2)] #[25, 3, 33] (v := .bool (isS ns dir 2)) rfl (fun w hw => is_calls ((hT).keep (hw.at_ 2 rfl) (fun k hk => hw.lt 2 rfl hk))) ?_
 refine Rg.p 12 (.unOp .not 4 (.tmp 11)) (pv_not (b := isS ns dir 2) rfl) ?_
 refine Rg.nx (fun _ _ h => h) [12,6,5,3,1] rfl ?_
 refine Ev.cd 12 rfl (fun h1 => ?_) (fun h1 => ?_)
 ·
  have h2 := not_t h1
  refine Ev.sr 1 ?_
  refine Rg.ac 6 (.int .i64 0) ?_
  refine Rg.nx (fun _ _ h => h) [6,5,3,1] rfl ?_
  refine Ev.rt ?_
  refine At.via (Q := Q) hQ ?_
  refine At.ret1 rfl rfl rfl ?_
  exact fun w hw => ⟨(by unfold entryS dot dots; rw [h1]; rfl), hw.base_below 2 rfl⟩
 ·
  have h3 := not_f h1
  have ⟨h4, h5, h6, h7⟩ := isS_t h3
  refine Ev.sk ?_
  refine At.nx (fun _ _ h => h) [6,5,3,1] rfl ?_
  refine Ev.sr 7 ?_
  refine Rg.fa 13 25 3 0 0 rfl ?_
  refine Rg.ld 14 22 13 1 rfl rfl rfl ?_
  refine Rg.mv 15 1 rfl ?_
  have ⟨q3, o4, hp5⟩ := hT.rows.adr (by omega)
  refine Rg.p 16 (.indexAddr 22 (.tmp 14) (.tmp 15)) (v := .pointer (some ⟨q3, o4 + (dir).toNat * 25, none⟩)) (pv_indexAddr' rfl hp5 rfl (e := 44) (sz := 25) (by kernel_rfl) (by omega) (by omega)) ?_
  refine Rg.p 17 (.load 44 (.tmp 16)) (v := .agg ((nd ns ((dir).toNat)).cells (lc al ((dir).toNat)))) (pv_load_node (i := (dir).toNat) (ns := ns) rfl hp5 (by omega) (by kernel_rfl) (by kernel_rfl) (fun w hw => ((hT).keep (hw.at_ 2 rfl) (fun k hk => hw.lt 2 rfl hk)))) ?_
  refine Rg.al 7 44 (.agg #[.int .u32 0, .int .u32 0, .int .u32 0, .int .u32 0, .int .u32 0, .int .i64 0, .int .u32 0, .int .u32 0, .int .u32 0, .int .u32 0, .int .u32 0, .int .u32 0, .slice none 0 0, .int .u8 0, .int .u8 0, .int .u8 0, .int .u8 0, .int .u8 0, .int .u8 0, .int .u8 0, .int .u8 0, .string ⟨#[]⟩, .slice none 0 0, .int .i64 0, .int .u64 0]) fun b6 => ?_
  refine Rg.st 44 7 (.tmp 17) 0 ((nd ns ((dir).toNat)).cells (lc al ((dir).toNat))) rfl rfl rfl ?_
  refine Rg.nx (fun _ _ h => h) [7,6,5,1] rfl ?_
  refine Ev.sq ?_
  refine Ev.sr 1 ?_
  refine Rg.ld 18 9 5 1 rfl rfl rfl ?_
  refine Rg.nx (fun _ _ h => h) [18,7,6,5,1] rfl ?_
  refine Ev.bk 0 ?_
  refine Ev.sr 2 ?_
  refine Rg.p 20 (.binOp .eql 9 (.tmp 18) (.const (.string ⟨#[46]⟩)) 9) (pv_eql_str rfl rfl) ?_
  refine Rg.as 19 20 rfl ?_
  refine Rg.nx (fun _ _ h => h) [19,18,7,6,5,1] rfl ?_
  refine Ev.cd 19 rfl (fun h8 => ?_) (fun h8 => ?_)
  ·
   have h9 := of_decide_eq_true h8
   refine Ev.sr 2 ?_
   refine Rg.mv 21 1 rfl ?_
   refine Rg.as 6 21 rfl ?_
   refine Rg.nx (fun _ _ h => h) [7,6,5] rfl ?_
   refine Ev.rt ?_
   refine At.via (Q := Q) hQ ?_
   refine At.ret1 rfl rfl rfl ?_
   exact fun w hw => ⟨(by unfold entryS dot dots; rw [h1, h8]; rfl), hw.base_below 3 rfl⟩
  ·
   have h10 := of_decide_eq_false h8
   refine Ev.sr 2 ?_
   refine Rg.p 23 (.binOp .eql 9 (.tmp 18) (.const (.string ⟨#[46, 46]⟩)) 9) (pv_eql_str rfl rfl) ?_
   refine Rg.as 22 23 rfl ?_
   refine Rg.nx (fun _ _ h => h) [22,7,6,5] rfl ?_
   refine Ev.cd 22 rfl (fun h11 => ?_) (fun h11 => ?_)
   ·
    have h12 := of_decide_eq_true h11
    refine Ev.sr 3 ?_
    refine Rg.fa 24 44 7 13 23 rfl ?_
    refine Rg.ld 25 3 24 0 rfl rfl rfl ?_
    refine Rg.as 6 25 rfl ?_
    refine Rg.nx (fun _ _ h => h) [7,6,5] rfl ?_
    refine Ev.rt ?_
    refine At.via (Q := Q) hQ ?_
    refine At.ret1 rfl rfl rfl ?_
    exact fun w hw => ⟨(by unfold entryS dot dots; rw [h1, h8, h11]; rfl), hw.base_below 3 rfl⟩
   ·
    have h13 := of_decide_eq_false h11
    refine Ev.sk ?_
    refine At.nx (fun _ _ h => h) [7,6,5] rfl ?_
    refine Ev.sr 5 ?_
    refine Rg.fa 26 44 7 12 22 rfl ?_
    refine Rg.ld 27 42 26 0 rfl rfl rfl ?_
    refine Rg.p 28 (.makeFunc (.func 65) #[] #[.tmp 5]) (v := .func (.func 65) #[] #[.pointer (some ⟨b2, 0, none⟩)]) (pv_makeFunc (xs := [.tmp 5]) rfl) ?_
    refine Rg.cl (some 29) 64 #[.tmp 27, .tmp 28] #[42, 141] (v := .int .i64 (idxE ((nd ns ((dir).toNat)).list) name)) rfl (fun w hw => indexFuncE_calls ((((hT.node ((dir).toNat) (by omega))).list).keep (hw.at_ 3 rfl) (fun k hk => hw.lt 3 rfl hk)) ((hW.node _).list) (hw.blk_at 1 rfl)) ?_
    refine Rg.as 8 29 rfl ?_
    refine Rg.nx (fun _ _ h => h) [8,7,6] rfl ?_
    refine Ev.sq ?_
    refine Ev.sr 2 ?_
    refine Rg.mv 30 8 rfl ?_
    refine Rg.p 31 (.binOp .lss 3 (.tmp 30) (.const (.int .i64 0)) 3) (pv_lss rfl rfl) ?_
    refine Rg.nx (fun _ _ h => h) [31,8,7,6] rfl ?_
    refine Ev.cd 31 rfl (fun h14 => ?_) (fun h14 => ?_)
    ·
     have h15 := of_decide_eq_true h14
     refine Ev.sr 1 ?_
     refine Rg.ac 6 (.int .i64 0) ?_
     refine Rg.nx (fun _ _ h => h) [8,7,6] rfl ?_
     refine Ev.rt ?_
     refine At.via (Q := Q) hQ ?_
     refine At.ret1 rfl rfl rfl ?_
     exact fun w hw => ⟨(by unfold entryS dot dots; rw [h1, h8, h11, h14]; rfl), hw.base_below 3 rfl⟩
    ·
     have h16 := of_decide_eq_false h14
     refine Ev.sk ?_
     refine At.nx (fun _ _ h => h) [8,7,6] rfl ?_
     refine Ev.sr 7 ?_
     refine Rg.fa 32 44 7 12 22 rfl ?_
     refine Rg.ld 33 42 32 0 rfl rfl rfl ?_
     refine Rg.mv 34 8 rfl ?_
     have ⟨q7, o8, hp9⟩ := ((hT.node ((dir).toNat) (by omega))).list.adr (by omega)
     refine Rg.p 35 (.indexAddr 42 (.tmp 33) (.tmp 34)) (v := .pointer (some ⟨q7, o8 + (idxE ((nd ns ((dir).toNat)).list) name).toNat * 3, none⟩)) (pv_indexAddr' rfl hp9 rfl (e := 50) (sz := 3) (by kernel_rfl) (by omega) (by omega)) ?_
     refine Rg.fa 36 50 35 1 1 rfl ?_
     refine Rg.p 37 (.load 3 (.tmp 36)) (v := .int .i64 ((en ((nd ns ((dir).toNat)).list) ((idxE ((nd ns ((dir).toNat)).list) name).toNat)).node)) (pv_load rfl (by kernel_rfl) (fun w hw => ((((hT.node ((dir).toNat) (by omega))).list).keep (hw.at_ 3 rfl) (fun k hk => hw.lt 3 rfl hk)).cell _ _ hp9 _ (by omega) 1 (by decide))) ?_
     refine Rg.as 6 37 rfl ?_
     refine Rg.nx (fun _ _ h => h) [6] rfl ?_
     refine Ev.rt ?_
     refine At.via (Q := Q) hQ ?_
     refine At.ret1 rfl rfl rfl ?_
     exact fun w hw => ⟨(by unfold entryS dot dots; rw [h1, h8, h11, h14]; rfl), hw.base_below 3 rfl⟩

end Go.Proofs.Ytfhhggcdmgjbcaa.Sx
