/-
  A part of the walk of the seat: laws of a small proof system, and contracts of functions, each proved. Conditions: as each theorem says.
-/
import Derived.Test.YtfhhggcdmgjbcaaProg
import Derived.Test.YtfhhggcdmgjbcaaWalkA
namespace Go.Proofs.Ytfhhggcdmgjbcaa.Sx
open Go Go.RowKit Go.Proofs

set_option maxHeartbeats 8000000 in
theorem entriesSize_calls {p : Option Addr} {es : List Entry} {cap : Nat} {w : World} (hE : EntriesAt (Low w) w p es) (hl : es.length ≤ 16777216) (hW : ∀ i, EntryWf (en es i)) :
  Calls Try.prog 153 #[.slice p es.length cap] w (RetN w (fun v : Int => 0 ≤ v ∧ v ≤ 562949953421312) (fun v => .int .i64 v) (fun _ => [])) := by
 refine calls_ofQ (args := [_]) [base w (Low w)] Try.func153 (by kernel_rfl) (by kernel_rfl) (Heap.start w) ?_
 intro Q hQ
 refine Ev.sr 1 ?_
 refine Rg.ac 2 (.int .i64 0) ?_
 refine Rg.nx (fun _ _ h => h) [2,0] rfl ?_
 refine Ev.sr 3 ?_
 refine Rg.mv 5 0 rfl ?_
 refine Rg.p 6 (.call { callee := .builtin .len, args := #[.tmp 5], argTypes := #[42] }) (pv_len_slice rfl (by kernel_rfl)) ?_
 refine Rg.as 3 6 rfl ?_
 refine Rg.nx (fun _ _ h => h) [3,2,0] rfl ?_
 refine Ev.sq ?_
 refine Ev.sr 1 ?_
 refine Rg.ac 4 (.int .i64 0) ?_
 refine Rg.nx (fun _ _ h => h) [4,3,2,0] rfl ?_
 refine Ev.bk 0 ?_
 refine ev_loop (T := Nat × Int) (fun x_ => (fun k v => [(0, .slice p es.length cap), (3, .int .i64 v), (4, .int .i64 (k : Int))]) x_.1 x_.2) (fun x_ => (fun k v => [base w (Low w)]) x_.1 x_.2) (fun x_ => (fun k v => k ≤ es.length ∧ 0 ≤ v ∧ v ≤ 562949953421312) x_.1 x_.2) (fun x_ => (fun k v => es.length - k) x_.1 x_.2) (0, (es.length : Int)) [0] (by kernel_rfl) ⟨Nat.zero_le _, (by show (0 : Int) ≤ (es.length : Int); omega), (by show (es.length : Int) ≤ 562949953421312; omega)⟩ (.cons (rfl) (.cons (rfl) (.cons (rfl) (.nil _)))) rfl (by decide) ?_
 rintro ⟨k, v⟩ ⟨(hk : k ≤ es.length), (hv0 : 0 ≤ v), (hv1 : v ≤ 562949953421312)⟩
 show Ev _ _ [(0, .slice p es.length cap), (3, .int .i64 v), (4, .int .i64 (k : Int))] [base w (Low w)] _
 have hn := (hW k).name
 refine Ev.sq ?_
 refine Ev.sr 8 ?_
 refine Rg.mv 7 4 rfl ?_
 refine Rg.mv 8 0 rfl ?_
 refine Rg.p 9 (.call { callee := .builtin .len, args := #[.tmp 8], argTypes := #[42] }) (pv_len_slice rfl (by kernel_rfl)) ?_
 refine Rg.p 10 (.binOp .lss 3 (.tmp 7) (.tmp 9) 3) (pv_lss rfl rfl) ?_
 refine Rg.mv 11 10 rfl ?_
 refine Rg.ga 8 14 11 (decide (v ≤ 1048576)) rfl (fun h1 => ?_) (fun h1 => ?_) ?_
 ·
  have h2 := of_decide_eq_true h1
  refine Rg.pg 4 true 12 (.move (.tmp 3)) (pv_move rfl) ?_
  refine Rg.pg 4 true 13 (.binOp .leq 3 (.tmp 12) (.const (.int .i64 1048576)) 3) (pv_leq rfl rfl) ?_
  refine Rg.p 14 (.pick (.tmp 11) (.tmp 13) (.const (.bool false))) (pv_pick_t rfl rfl) ?_
  exact Rg.em 11 h1 (at_t h1) rfl rfl
 ·
  refine Rg.skips 7 (by kernel_rfl) ?_
  refine Rg.p 14 (.pick (.tmp 11) (.tmp 13) (.const (.bool false))) (pv_pick_f rfl rfl) ?_
  exact Rg.em 11 h1 (at_f h1) rfl rfl
 refine Rg.nx (fun _ _ h => h) [14,11,10,9,8,7,4,3,0] rfl ?_
 refine Ev.cd 14 rfl (fun h3 => ?_) (fun h3 => ?_)
 ·
  have ⟨h4, h5⟩ := and_t h3
  have h6 := of_decide_eq_true h4
  have h7 := of_decide_eq_true h5
  refine Ev.sk ?_
  refine At.nx (fun _ _ h => h) [14,11,10,9,8,7,4,3,0] rfl ?_
  refine Ev.sq ?_
  refine Ev.bk 1 ?_
  refine Ev.rg 9 ?_
  refine Rg.mv 17 3 rfl ?_
  refine Rg.mv 18 0 rfl ?_
  refine Rg.mv 19 4 rfl ?_
  have ⟨q1, o2, hp3⟩ := hE.adr (by omega)
  refine Rg.p 20 (.indexAddr 42 (.tmp 18) (.tmp 19)) (v := .pointer (some ⟨q1, o2 + ((k : Int)).toNat * 3, none⟩)) (pv_indexAddr' rfl hp3 rfl (e := 50) (sz := 3) (by kernel_rfl) (by omega) (by omega)) ?_
  refine Rg.fa 21 50 20 0 0 rfl ?_
  refine Rg.p 22 (.load 9 (.tmp 21)) (v := .string ((en es k).name)) (pv_load rfl (by kernel_rfl) (fun w hw => ((hE).keep (hw.at_ 0 rfl) (fun k hk => hw.lt 0 rfl hk)).cell _ _ hp3 _ (by omega) 0 (by decide))) ?_
  refine Rg.p 23 (.call { callee := .builtin .len, args := #[.tmp 22], argTypes := #[9] }) (pv_len_string rfl (by kernel_rfl)) ?_
  refine Rg.p 24 (.binOp .add 3 (.tmp 17) (.tmp 23) 3) (pv_addb rfl rfl (in_i64 (by omega) (by omega))) ?_
  refine Rg.as 3 24 rfl ?_
  refine Rg.nx (fun _ _ h => h) [24,23,22,21,20,19,18,17,14,11,10,9,8,7,4,3,0] rfl ?_
  refine Ev.rg 3 ?_
  refine Rg.mv 15 4 rfl ?_
  refine Rg.p 16 (.binOp .add 3 (.tmp 15) (.const (.int .i64 1)) 3) (pv_addb rfl rfl (in_i64 (by omega) (by omega))) ?_
  refine Rg.as 4 16 rfl ?_
  refine Rg.fin rfl ?_
  refine At.round (t := (k, v)) (fun _ _ h => h) (k + 1, v + ((en es k).name.size : Int)) [0] ⟨(by show k + 1 ≤ es.length; omega), (by show 0 ≤ v + _; omega), (by show v + _ ≤ 562949953421312; omega)⟩ (by show es.length - (k + 1) < es.length - k; omega) (.cons (rfl) (.cons (rfl) (.cons (rfl) (.nil _)))) rfl (by decide)
 ·
  refine Ev.xt 0 ?_
  refine At.nx (fun _ _ h => h) [3] rfl ?_
  refine Ev.sr 2 ?_
  refine Rg.mv 25 3 rfl ?_
  refine Rg.as 2 25 rfl ?_
  refine Rg.nx (fun _ _ h => h) [2] rfl ?_
  refine Ev.rt ?_
  refine At.via (Q := Q) hQ ?_
  refine At.ret1 rfl rfl rfl ?_
  exact fun w hw => ⟨v, ⟨by omega, by omega⟩, rfl, hw.pick [0] (by decide)⟩

set_option maxHeartbeats 8000000 in
theorem bytesSize_calls {p : Option Addr} {n c : Nat} {w : World} :
  Calls Try.prog 136 #[.slice p n c] w (Ret w (.int .i64 (n : Int))) := by
 refine calls_ofQ (args := [_]) [base w (Low w)] Try.func136 (by kernel_rfl) (by kernel_rfl) (Heap.start w) ?_
 intro Q hQ
 refine Ev.sr 1 ?_
 refine Rg.ac 2 (.int .i64 0) ?_
 refine Rg.nx (fun _ _ h => h) [2,0] rfl ?_
 refine Ev.sr 3 ?_
 refine Rg.mv 3 0 rfl ?_
 refine Rg.p 4 (.call { callee := .builtin .len, args := #[.tmp 3], argTypes := #[29] }) (pv_len_slice rfl (by kernel_rfl)) ?_
 refine Rg.as 2 4 rfl ?_
 refine Rg.nx (fun _ _ h => h) [2] rfl ?_
 refine Ev.rt ?_
 refine At.via (Q := Q) hQ ?_
 refine At.ret1 rfl rfl rfl ?_
 exact fun w hw => ⟨rfl, hw.base_below 0 rfl⟩

set_option maxHeartbeats 8000000 in
theorem nodeSize_calls {n : Node} {a : Loc} {w : World} (hN : NodeAt (Low w) w n a) (hW : NodeWf n) :
  Calls Try.prog 121 #[.agg (n.cells a)] w (RetN w (fun v : Int => 0 ≤ v ∧ v ≤ 1125899906842624) (fun v => .int .i64 v) (fun _ => [])) := by
 refine calls_ofQ (args := [_]) [base w (Low w)] Try.func121 (by kernel_rfl) (by kernel_rfl) (Heap.start w) ?_
 intro Q hQ
 have ht := hW.target
 have hd := hW.data
 have hl := hW.list
 refine Ev.sr 2 ?_
 refine Rg.bx 1 44 (.tmp 0) rfl fun b1 => ?_
 refine Rg.ac 2 (.int .i64 0) ?_
 refine Rg.nx (fun _ _ h => h) [2,1] rfl ?_
 refine Ev.sr 5 ?_
 refine Rg.fa 4 44 1 11 21 rfl ?_
 refine Rg.ld 5 9 4 0 rfl rfl rfl ?_
 refine Rg.p 6 (.call { callee := .builtin .len, args := #[.tmp 5], argTypes := #[9] }) (pv_len_string rfl (by kernel_rfl)) ?_
 refine Rg.p 7 (.binOp .add 3 (.const (.int .i64 1)) (.tmp 6) 3) (pv_addb rfl rfl (in_i64 (by omega) (by omega))) ?_
 refine Rg.as 3 7 rfl ?_
 refine Rg.nx (fun _ _ h => h) [3,2,1] rfl ?_
 refine Ev.sq ?_
 refine Ev.sr 2 ?_
 refine Rg.mv 8 3 rfl ?_
 refine Rg.p 9 (.binOp .leq 3 (.tmp 8) (.const (.int .i64 1048576)) 3) (pv_leq rfl rfl) ?_
 refine Rg.nx (fun _ _ h => h) [9,3,2,1] rfl ?_
 refine Ev.cd 9 rfl (fun h1 => ?_) (fun h1 => ?_)
 ·
  have h2 := of_decide_eq_true h1
  refine Ev.rg 6 ?_
  refine Rg.mv 10 3 rfl ?_
  refine Rg.fa 11 44 1 9 12 rfl ?_
  refine Rg.ld 12 29 11 0 rfl rfl rfl ?_
  refine Rg.cl (some 13) 136 #[.tmp 12] #[29] (v := .int .i64 (n.data.length : Int)) rfl (fun w hw => bytesSize_calls) ?_
  refine Rg.p 14 (.binOp .add 3 (.tmp 10) (.tmp 13) 3) (pv_addb rfl rfl (in_i64 (by omega) (by omega))) ?_
  refine Rg.as 3 14 rfl ?_
  refine Rg.nx (fun _ _ h => h) [3,2,1] rfl ?_
  refine Ev.sq ?_
  refine Ev.sr 2 ?_
  refine Rg.mv 15 3 rfl ?_
  refine Rg.p 16 (.binOp .leq 3 (.tmp 15) (.const (.int .i64 1048576)) 3) (pv_leq rfl rfl) ?_
  refine Rg.nx (fun _ _ h => h) [16,3,2,1] rfl ?_
  refine Ev.cd 16 rfl (fun h3 => ?_) (fun h3 => ?_)
  ·
   have h4 := of_decide_eq_true h3
   refine Ev.rg 6 ?_
   refine Rg.mv 17 3 rfl ?_
   refine Rg.fa 18 44 1 12 22 rfl ?_
   refine Rg.ld 19 42 18 0 rfl rfl rfl ?_
   refine Rg.cn (T := Int) (some 20) 153 #[.tmp 19] #[42] (v := fun v2 => .int .i64 v2) (L := fun v2 => []) rfl (fun w hw => entriesSize_calls (((hN).list).keep (hw.at_ 1 rfl) (fun k hk => hw.lt 1 rfl hk)) hW.list hW.entry) ?_
   rintro v2 ⟨h0_v2, h1_v2⟩
   dsimp only [putE, List.append, HAppend.hAppend, Append.append]
   refine Rg.p 21 (.binOp .add 3 (.tmp 17) (.tmp 20) 3) (pv_addb rfl rfl (in_i64 (by omega) (by omega))) ?_
   refine Rg.as 3 21 rfl ?_
   refine Rg.nx (fun _ _ h => h) [3,2] rfl ?_
   refine Ev.sr 2 ?_
   refine Rg.mv 22 3 rfl ?_
   refine Rg.as 2 22 rfl ?_
   refine Rg.nx (fun _ _ h => h) [2] rfl ?_
   refine Ev.rt ?_
   refine At.via (Q := Q) hQ ?_
   refine At.ret1 rfl rfl rfl ?_
   exact fun w hw => ⟨((1 + (n.target.size : Int)) + (n.data.length : Int)) + v2, ⟨by omega, by omega⟩, rfl, hw.pick [1] (by decide)⟩
  ·
   have h5 := of_decide_eq_false h3
   refine Ev.sk ?_
   refine At.nx (fun _ _ h => h) [3,2] rfl ?_
   refine Ev.sr 2 ?_
   refine Rg.mv 22 3 rfl ?_
   refine Rg.as 2 22 rfl ?_
   refine Rg.nx (fun _ _ h => h) [2] rfl ?_
   refine Ev.rt ?_
   refine At.via (Q := Q) hQ ?_
   refine At.ret1 rfl rfl rfl ?_
   exact fun w hw => ⟨(1 + (n.target.size : Int)) + (n.data.length : Int), ⟨by omega, by omega⟩, rfl, hw.pick [1] (by decide)⟩
 ·
  have h6 := of_decide_eq_false h1
  refine Ev.sk ?_
  refine At.nx (fun _ _ h => h) [3,2,1] rfl ?_
  refine Ev.sq ?_
  refine Ev.sr 2 ?_
  refine Rg.mv 15 3 rfl ?_
  refine Rg.p 16 (.binOp .leq 3 (.tmp 15) (.const (.int .i64 1048576)) 3) (pv_leq rfl rfl) ?_
  refine Rg.nx (fun _ _ h => h) [16,3,2,1] rfl ?_
  refine Ev.cd 16 rfl (fun h7 => ?_) (fun h7 => ?_)
  ·
   have h8 := of_decide_eq_true h7
   refine Ev.rg 6 ?_
   refine Rg.mv 17 3 rfl ?_
   refine Rg.fa 18 44 1 12 22 rfl ?_
   refine Rg.ld 19 42 18 0 rfl rfl rfl ?_
   refine Rg.cn (T := Int) (some 20) 153 #[.tmp 19] #[42] (v := fun v3 => .int .i64 v3) (L := fun v3 => []) rfl (fun w hw => entriesSize_calls (((hN).list).keep (hw.at_ 1 rfl) (fun k hk => hw.lt 1 rfl hk)) hW.list hW.entry) ?_
   rintro v3 ⟨h0_v3, h1_v3⟩
   dsimp only [putE, List.append, HAppend.hAppend, Append.append]
   refine Rg.p 21 (.binOp .add 3 (.tmp 17) (.tmp 20) 3) (pv_addb rfl rfl (in_i64 (by omega) (by omega))) ?_
   refine Rg.as 3 21 rfl ?_
   refine Rg.nx (fun _ _ h => h) [3,2] rfl ?_
   refine Ev.sr 2 ?_
   refine Rg.mv 22 3 rfl ?_
   refine Rg.as 2 22 rfl ?_
   refine Rg.nx (fun _ _ h => h) [2] rfl ?_
   refine Ev.rt ?_
   refine At.via (Q := Q) hQ ?_
   refine At.ret1 rfl rfl rfl ?_
   exact fun w hw => ⟨(1 + (n.target.size : Int)) + v3, ⟨by omega, by omega⟩, rfl, hw.pick [1] (by decide)⟩
  ·
   have h9 := of_decide_eq_false h7
   refine Ev.sk ?_
   refine At.nx (fun _ _ h => h) [3,2] rfl ?_
   refine Ev.sr 2 ?_
   refine Rg.mv 22 3 rfl ?_
   refine Rg.as 2 22 rfl ?_
   refine Rg.nx (fun _ _ h => h) [2] rfl ?_
   refine Ev.rt ?_
   refine At.via (Q := Q) hQ ?_
   refine At.ret1 rfl rfl rfl ?_
   exact fun w hw => ⟨1 + (n.target.size : Int), ⟨by omega, by omega⟩, rfl, hw.pick [1] (by decide)⟩

set_option maxHeartbeats 8000000 in
theorem nodesSize_calls {p : Option Addr} {ns : List Node} {al : List Loc} {cap : Nat} {w : World} (hT : NodesAt (Low w) w p ns al) (hW : NodesWf ns) :
  Calls Try.prog 81 #[.slice p ns.length cap] w (RetN w (fun v : Int => 0 ≤ v ∧ v ≤ 2251799813685248) (fun v => .int .i64 v) (fun _ => [])) := by
 refine calls_ofQ (args := [_]) [base w (Low w)] Try.func81 (by kernel_rfl) (by kernel_rfl) (Heap.start w) ?_
 intro Q hQ
 have hlen := hW.len
 refine Ev.sr 1 ?_
 refine Rg.ac 2 (.int .i64 0) ?_
 refine Rg.nx (fun _ _ h => h) [2,0] rfl ?_
 refine Ev.sr 3 ?_
 refine Rg.mv 5 0 rfl ?_
 refine Rg.p 6 (.call { callee := .builtin .len, args := #[.tmp 5], argTypes := #[22] }) (pv_len_slice rfl (by kernel_rfl)) ?_
 refine Rg.as 3 6 rfl ?_
 refine Rg.nx (fun _ _ h => h) [3,2,0] rfl ?_
 refine Ev.sq ?_
 refine Ev.sr 1 ?_
 refine Rg.ac 4 (.int .i64 0) ?_
 refine Rg.nx (fun _ _ h => h) [4,3,2,0] rfl ?_
 refine Ev.bk 0 ?_
 refine ev_loop (T := Nat × Int) (fun x_ => (fun k v => [(0, .slice p ns.length cap), (3, .int .i64 v), (4, .int .i64 (k : Int))]) x_.1 x_.2) (fun x_ => (fun k v => [base w (Low w)]) x_.1 x_.2) (fun x_ => (fun k v => k ≤ ns.length ∧ 0 ≤ v ∧ v ≤ 2251799813685248) x_.1 x_.2) (fun x_ => (fun k v => ns.length - k) x_.1 x_.2) (0, (ns.length : Int)) [0] (by kernel_rfl) ⟨Nat.zero_le _, (by show (0 : Int) ≤ (ns.length : Int); omega), (by show (ns.length : Int) ≤ 2251799813685248; omega)⟩ (.cons (rfl) (.cons (rfl) (.cons (rfl) (.nil _)))) rfl (by decide) ?_
 rintro ⟨k, v⟩ ⟨(hk : k ≤ ns.length), (hv0 : 0 ≤ v), (hv1 : v ≤ 2251799813685248)⟩
 show Ev _ _ [(0, .slice p ns.length cap), (3, .int .i64 v), (4, .int .i64 (k : Int))] [base w (Low w)] _
 refine Ev.sq ?_
 refine Ev.sr 8 ?_
 refine Rg.mv 7 4 rfl ?_
 refine Rg.mv 8 0 rfl ?_
 refine Rg.p 9 (.call { callee := .builtin .len, args := #[.tmp 8], argTypes := #[22] }) (pv_len_slice rfl (by kernel_rfl)) ?_
 refine Rg.p 10 (.binOp .lss 3 (.tmp 7) (.tmp 9) 3) (pv_lss rfl rfl) ?_
 refine Rg.mv 11 10 rfl ?_
 refine Rg.ga 8 14 11 (decide (v ≤ 1048576)) rfl (fun h1 => ?_) (fun h1 => ?_) ?_
 ·
  have h2 := of_decide_eq_true h1
  refine Rg.pg 4 true 12 (.move (.tmp 3)) (pv_move rfl) ?_
  refine Rg.pg 4 true 13 (.binOp .leq 3 (.tmp 12) (.const (.int .i64 1048576)) 3) (pv_leq rfl rfl) ?_
  refine Rg.p 14 (.pick (.tmp 11) (.tmp 13) (.const (.bool false))) (pv_pick_t rfl rfl) ?_
  exact Rg.em 11 h1 (at_t h1) rfl rfl
 ·
  refine Rg.skips 7 (by kernel_rfl) ?_
  refine Rg.p 14 (.pick (.tmp 11) (.tmp 13) (.const (.bool false))) (pv_pick_f rfl rfl) ?_
  exact Rg.em 11 h1 (at_f h1) rfl rfl
 refine Rg.nx (fun _ _ h => h) [14,11,10,9,8,7,4,3,0] rfl ?_
 refine Ev.cd 14 rfl (fun h3 => ?_) (fun h3 => ?_)
 ·
  have ⟨h4, h5⟩ := and_t h3
  have h6 := of_decide_eq_true h4
  have h7 := of_decide_eq_true h5
  refine Ev.sk ?_
  refine At.nx (fun _ _ h => h) [14,11,10,9,8,7,4,3,0] rfl ?_
  refine Ev.sq ?_
  refine Ev.bk 1 ?_
  refine Ev.rg 8 ?_
  refine Rg.mv 17 3 rfl ?_
  refine Rg.mv 18 0 rfl ?_
  refine Rg.mv 19 4 rfl ?_
  have ⟨q1, o2, hp3⟩ := hT.rows.adr (by omega)
  refine Rg.p 20 (.indexAddr 22 (.tmp 18) (.tmp 19)) (v := .pointer (some ⟨q1, o2 + ((k : Int)).toNat * 25, none⟩)) (pv_indexAddr' rfl hp3 rfl (e := 44) (sz := 25) (by kernel_rfl) (by omega) (by omega)) ?_
  refine Rg.p 21 (.load 44 (.tmp 20)) (v := .agg ((nd ns k).cells (lc al k))) (pv_load_node (i := ((k : Int)).toNat) (ns := ns) rfl hp3 (by omega) (by kernel_rfl) (by kernel_rfl) (fun w hw => ((hT).keep (hw.at_ 0 rfl) (fun k hk => hw.lt 0 rfl hk)))) ?_
  refine Rg.cn (T := Int) (some 22) 121 #[.tmp 21] #[44] (v := fun v4 => .int .i64 v4) (L := fun v4 => []) rfl (fun w hw => nodeSize_calls (((hT.node k (by omega))).keep (hw.at_ 0 rfl) (fun k hk => hw.lt 0 rfl hk)) (hW.node _)) ?_
  rintro v4 ⟨h0_v4, h1_v4⟩
  dsimp only [putE, List.append, HAppend.hAppend, Append.append]
  refine Rg.p 23 (.binOp .add 3 (.tmp 17) (.tmp 22) 3) (pv_addb rfl rfl (in_i64 (by omega) (by omega))) ?_
  refine Rg.as 3 23 rfl ?_
  refine Rg.nx (fun _ _ h => h) [23,22,21,20,19,18,17,14,11,10,9,8,7,4,3,0] rfl ?_
  refine Ev.rg 3 ?_
  refine Rg.mv 15 4 rfl ?_
  refine Rg.p 16 (.binOp .add 3 (.tmp 15) (.const (.int .i64 1)) 3) (pv_addb rfl rfl (in_i64 (by omega) (by omega))) ?_
  refine Rg.as 4 16 rfl ?_
  refine Rg.fin rfl ?_
  refine At.round (t := (k, v)) (fun _ _ h => h) (k + 1, v + v4) [0] ⟨(by show k + 1 ≤ ns.length; omega), (by show 0 ≤ v + _; omega), (by show v + _ ≤ 2251799813685248; omega)⟩ (by show ns.length - (k + 1) < ns.length - k; omega) (.cons (rfl) (.cons (rfl) (.cons (rfl) (.nil _)))) rfl (by decide)
 ·
  refine Ev.xt 0 ?_
  refine At.nx (fun _ _ h => h) [3] rfl ?_
  refine Ev.sr 2 ?_
  refine Rg.mv 24 3 rfl ?_
  refine Rg.as 2 24 rfl ?_
  refine Rg.nx (fun _ _ h => h) [2] rfl ?_
  refine Ev.rt ?_
  refine At.via (Q := Q) hQ ?_
  refine At.ret1 rfl rfl rfl ?_
  exact fun w hw => ⟨v, ⟨by omega, by omega⟩, rfl, hw.pick [0] (by decide)⟩

set_option maxHeartbeats 8000000 in
theorem treeSize_calls {p : Option Addr} {ns : List Node} {al : List Loc} {cap : Nat} {gen : Int} {w : World} (hT : NodesAt (Low w) w p ns al) (hW : NodesWf ns) :
  Calls Try.prog 27 #[.agg #[.slice p ns.length cap, .int .u32 gen]] w (RetN w (fun v : Int => 0 ≤ v ∧ v ≤ 4503599627370496) (fun v => .int .i64 v) (fun _ => [])) := by
 refine calls_ofQ (args := [_]) [base w (Low w)] Try.func27 (by kernel_rfl) (by kernel_rfl) (Heap.start w) ?_
 intro Q hQ
 refine Ev.sr 2 ?_
 refine Rg.bx 1 25 (.tmp 0) rfl fun b1 => ?_
 refine Rg.ac 2 (.int .i64 0) ?_
 refine Rg.nx (fun _ _ h => h) [2,1] rfl ?_
 refine Ev.sr 1 ?_
 refine Rg.ac 3 (.int .i64 1) ?_
 refine Rg.nx (fun _ _ h => h) [3,2,1] rfl ?_
 refine Ev.sq ?_
 refine Ev.sr 2 ?_
 refine Rg.mv 4 3 rfl ?_
 refine Rg.p 5 (.binOp .leq 3 (.tmp 4) (.const (.int .i64 1048576)) 3) (pv_leq rfl rfl) ?_
 refine Rg.know 5 (b := decide (1 ≤ 1048576)) (c := true) rfl (by decide) ?_
 refine Rg.nx (fun _ _ h => h) [5,3,2,1] rfl ?_
 refine ev_cond_t (t := 5) (by kernel_rfl) rfl ?_
 refine Ev.rg 6 ?_
 refine Rg.mv 6 3 rfl ?_
 refine Rg.fa 7 25 1 0 0 rfl ?_
 refine Rg.ld 8 22 7 0 rfl rfl rfl ?_
 refine Rg.cn (T := Int) (some 9) 81 #[.tmp 8] #[22] (v := fun v2 => .int .i64 v2) (L := fun v2 => []) rfl (fun w hw => nodesSize_calls ((hT).keep (hw.at_ 1 rfl) (fun k hk => hw.lt 1 rfl hk)) hW) ?_
 rintro v2 ⟨h0_v2, h1_v2⟩
 dsimp only [putE, List.append, HAppend.hAppend, Append.append]
 refine Rg.p 10 (.binOp .add 3 (.tmp 6) (.tmp 9) 3) (pv_addb rfl rfl (in_i64 (by omega) (by omega))) ?_
 refine Rg.as 3 10 rfl ?_
 refine Rg.nx (fun _ _ h => h) [3,2] rfl ?_
 refine Ev.sr 2 ?_
 refine Rg.mv 11 3 rfl ?_
 refine Rg.as 2 11 rfl ?_
 refine Rg.nx (fun _ _ h => h) [2] rfl ?_
 refine Ev.rt ?_
 refine At.via (Q := Q) hQ ?_
 refine At.ret1 rfl rfl rfl ?_
 exact fun w hw => ⟨1 + v2, ⟨by omega, by omega⟩, rfl, hw.pick [1] (by decide)⟩

set_option maxHeartbeats 8000000 in
theorem great_calls {p : Option Addr} {ns : List Node} {al : List Loc} {cap : Nat} {gen : Int} {w : World} (hT : NodesAt (Low w) w p ns al) (hW : NodesWf ns) :
  Calls Try.prog 14 #[.agg #[.slice p ns.length cap, .int .u32 gen]] w (RetN w (fun _ : Bool => True) (fun b => .bool b) (fun _ => [])) := by
 refine calls_ofQ (args := [_]) [base w (Low w)] Try.func14 (by kernel_rfl) (by kernel_rfl) (Heap.start w) ?_
 intro Q hQ
 have hlen := hW.len
 refine Ev.sr 2 ?_
 refine Rg.bx 1 25 (.tmp 0) rfl fun b1 => ?_
 refine Rg.ac 2 (.bool false) ?_
 refine Rg.nx (fun _ _ h => h) [2,1] rfl ?_
 refine Ev.sr 10 ?_
 refine Rg.p 3 (.load 25 (.tmp 1)) (v := .agg #[.slice p ns.length cap, .int .u32 gen]) (pv_load_blk_whole 0 rfl rfl (by kernel_rfl) (by kernel_rfl)) ?_
 refine Rg.cn (T := Int) (some 4) 27 #[.tmp 3] #[25] (v := fun v2 => .int .i64 v2) (L := fun v2 => []) rfl (fun w hw => treeSize_calls ((hT).keep (hw.at_ 1 rfl) (fun k hk => hw.lt 1 rfl hk)) hW) ?_
 rintro v2 ⟨h0_v2, h1_v2⟩
 dsimp only [putE, List.append, HAppend.hAppend, Append.append]
 refine Rg.p 5 (.binOp .gtr 3 (.tmp 4) (.const (.int .i64 60000)) 3) (pv_gtr rfl rfl) ?_
 refine Rg.mv 6 5 rfl ?_
 refine Rg.go 9 11 6 (decide (1300 < (ns.length : Int))) rfl (fun h1 => ?_) (fun h1 => ?_) ?_
 ·
  refine Rg.skips 8 (by kernel_rfl) ?_
  refine Rg.p 11 (.pick (.tmp 6) (.const (.bool true)) (.tmp 10)) (pv_pick_t rfl rfl) ?_
  exact Rg.em 6 h1 (ot_t h1) rfl rfl
 ·
  have h2 := of_decide_eq_false h1
  refine Rg.pg 3 false 7 (.fieldAddr 25 (.tmp 1) 0) (pv_fieldAddr rfl (n := 0) (by kernel_rfl)) ?_
  refine Rg.pg 3 false 8 (.load 22 (.tmp 7)) (v := .slice p ns.length cap) (pv_load_blk 0 rfl rfl (by kernel_rfl) rfl) ?_
  refine Rg.pg 3 false 9 (.call { callee := .builtin .len, args := #[.tmp 8], argTypes := #[22] }) (pv_len_slice rfl (by kernel_rfl)) ?_
  refine Rg.pg 3 false 10 (.binOp .gtr 3 (.tmp 9) (.const (.int .i64 1300)) 3) (pv_gtr rfl rfl) ?_
  refine Rg.p 11 (.pick (.tmp 6) (.const (.bool true)) (.tmp 10)) (pv_pick_f rfl rfl) ?_
  exact Rg.em 6 h1 (ot_f h1) rfl rfl
 refine Rg.as 2 11 rfl ?_
 refine Rg.nx (fun _ _ h => h) [2] rfl ?_
 refine Ev.rt ?_
 refine At.via (Q := Q) hQ ?_
 refine At.ret1 rfl rfl rfl ?_
 exact fun w hw => ⟨_, trivial, rfl, hw.pick [1] (by decide)⟩

set_option maxHeartbeats 8000000 in
theorem entry1_calls {s name : ByteArray} {m ck : Int} {bx : Nat} {w : World} (hX : w.heap[bx]? = some (.cells #[.string name] 9 (0, 0))) :
  Calls Try.prog 65 #[.agg #[.string s, .int .i64 m, .int .u64 ck], .pointer (some ⟨bx, 0, none⟩)] w (Ret w (.bool (decide (s = name)))) := by
 refine calls_ofQ (args := [_, _]) [base w (Low w)] Try.func65 (by kernel_rfl) (by kernel_rfl) (Heap.start w) ?_
 intro Q hQ
 refine Ev.sr 2 ?_
 refine Rg.bx 2 50 (.tmp 0) rfl fun b1 => ?_
 refine Rg.ac 3 (.bool false) ?_
 refine Rg.nx (fun _ _ h => h) [3,2,1] rfl ?_
 refine Ev.sr 5 ?_
 refine Rg.fa 4 50 2 0 0 rfl ?_
 refine Rg.ld 5 9 4 0 rfl rfl rfl ?_
 refine Rg.p 6 (.load 9 (.tmp 1)) (v := .string name) (pv_load_base 1 rfl rfl rfl hX (by kernel_rfl) rfl) ?_
 refine Rg.p 7 (.binOp .eql 9 (.tmp 5) (.tmp 6) 9) (pv_eql_str rfl rfl) ?_
 refine Rg.as 3 7 rfl ?_
 refine Rg.nx (fun _ _ h => h) [3] rfl ?_
 refine Ev.rt ?_
 refine At.via (Q := Q) hQ ?_
 refine At.ret1 rfl rfl rfl ?_
 exact fun w hw => ⟨rfl, hw.base_below 1 rfl⟩

def idxE (es : List Entry) (name : ByteArray) : Int := match (List.range es.length).find? fun i => decide ((en es i).name = name) with | some i => (i : Int) | none => -1
theorem idxE_some {es : List Entry} {name : ByteArray} {k : Nat} (hk : k < es.length) (h : (en es k).name = name) (hno : ∀ i, i < k → (en es i).name ≠ name) : idxE es name = k := by
  have : (List.range es.length).find? (fun i => decide ((en es i).name = name)) = some k := by
    rw [List.find?_range_eq_some]
    exact ⟨by simpa using h, List.mem_range.2 hk, fun j hj => by simpa using hno j hj⟩
  simp [idxE, this]
theorem idxE_none {es : List Entry} {name : ByteArray} (hno : ∀ i, i < es.length → (en es i).name ≠ name) : idxE es name = -1 := by
  have : (List.range es.length).find? (fun i => decide ((en es i).name = name)) = none := by
    rw [List.find?_eq_none]
    intro i hi
    simpa using hno i (List.mem_range.1 hi)
  simp [idxE, this]
theorem idxE_range (es : List Entry) (name : ByteArray) : idxE es name = -1 ∨ (0 ≤ idxE es name ∧ idxE es name < (es.length : Int)) := by
  unfold idxE
  cases h : (List.range es.length).find? (fun i => decide ((en es i).name = name)) with
  | none => exact .inl rfl
  | some i =>
    have := List.mem_of_find?_eq_some h
    simp only [List.mem_range] at this
    right; simp; omega

set_option maxHeartbeats 8000000 in
theorem indexFuncE_calls {p : Option Addr} {es : List Entry} {cap : Nat} {w : World} (hE : EntriesAt (Low w) w p es) (hl : es.length ≤ 16777216) {bx : Nat} {name : ByteArray} (hX : w.heap[bx]? = some (.cells #[.string name] 9 (0, 0))) :
  Calls Try.prog 64 #[.slice p es.length cap, .func (.func 65) #[] #[.pointer (some ⟨bx, 0, none⟩)]] w (Ret w (.int .i64 (idxE es name))) := by
 refine calls_ofQ (args := [_, _]) [base w (Low w)] Try.func64 (by kernel_rfl) (by kernel_rfl) (Heap.start w) ?_
 intro Q hQ
 refine Ev.sr 1 ?_
 refine Rg.ac 4 (.int .i64 0) ?_
 refine Rg.nx (fun _ _ h => h) [4,1,0] rfl ?_
 refine Ev.sq ?_
 refine Ev.sr 3 ?_
 refine Rg.mv 6 0 rfl ?_
 refine Rg.p 7 (.call { callee := .builtin .len, args := #[.tmp 6], argTypes := #[42] }) (pv_len_slice rfl (by kernel_rfl)) ?_
 refine Rg.mc 8 (.int .i64 0) ?_
 refine Rg.nx (fun _ _ h => h) [8,7,4,1,0] rfl ?_
 refine Ev.bk 0 ?_
 refine ev_loop (T := Nat) (fun k => [(0, .slice p es.length cap), (1, .func (.func 65) #[] #[.pointer (some ⟨bx, 0, none⟩)]), (4, .int .i64 0), (7, .int .i64 (es.length : Int)), (8, .int .i64 (k : Int))]) (fun k => [base w (Low w)]) (fun k => k ≤ es.length ∧ ∀ i_, i_ < k → (en es i_).name ≠ name) (fun k => es.length - k) 0 [0] (by kernel_rfl) ⟨Nat.zero_le _, fun i_ h_ => absurd h_ (Nat.not_lt_zero _)⟩ (.cons (rfl) (.cons (rfl) (.cons (rfl) (.cons (rfl) (.cons (rfl) (.nil _)))))) rfl (by decide) ?_
 rintro k ⟨(hk : k ≤ es.length), (hno : ∀ i_, i_ < k → (en es i_).name ≠ name)⟩
 show Ev _ _ [(0, .slice p es.length cap), (1, .func (.func 65) #[] #[.pointer (some ⟨bx, 0, none⟩)]), (4, .int .i64 0), (7, .int .i64 (es.length : Int)), (8, .int .i64 (k : Int))] [base w (Low w)] _
 refine Ev.sr 1 ?_
 refine Rg.p 9 (.binOp .lss 3 (.tmp 8) (.tmp 7) 3) (pv_lss rfl rfl) ?_
 refine Rg.nx (fun _ _ h => h) [9,8,7,4,1,0] rfl ?_
 refine Ev.sq ?_
 refine Ev.cd 9 rfl (fun h1 => ?_) (fun h1 => ?_)
 ·
  have h2 := of_decide_eq_true h1
  refine Ev.sk ?_
  refine At.nx (fun _ _ h => h) [9,8,7,4,1,0] rfl ?_
  refine Ev.sq ?_
  refine Ev.bk 1 ?_
  refine Ev.sr 2 ?_
  refine Rg.mv 10 8 rfl ?_
  refine Rg.as 5 10 rfl ?_
  refine Rg.nx (fun _ _ h => h) [10,9,8,7,5,4,1,0] rfl ?_
  refine Ev.sr 6 ?_
  refine Rg.mv 11 1 rfl ?_
  refine Rg.mv 12 0 rfl ?_
  refine Rg.mv 13 5 rfl ?_
  have ⟨q1, o2, hp3⟩ := hE.adr (by omega)
  refine Rg.p 14 (.indexAddr 42 (.tmp 12) (.tmp 13)) (v := .pointer (some ⟨q1, o2 + ((k : Int)).toNat * 3, none⟩)) (pv_indexAddr' rfl hp3 rfl (e := 50) (sz := 3) (by kernel_rfl) (by omega) (by omega)) ?_
  refine Rg.p 15 (.load 50 (.tmp 14)) (v := .agg #[.string ((en es k).name), .int .i64 ((en es k).node), .int .u64 ((en es k).cookie)]) (pv_load_entry (i := ((k : Int)).toNat) (es := es) rfl hp3 (by omega) (by kernel_rfl) (by kernel_rfl) (fun w hw => ((hE).keep (hw.at_ 0 rfl) (fun k hk => hw.lt 0 rfl hk)))) ?_
  refine rg_callD (d := some 16) (f := 65) (fo := .tmp 11) (caps := #[.pointer (some ⟨bx, 0, none⟩)]) (xs := #[.tmp 15]) (ts := #[50]) (g := none) (v := .bool (decide ((en es k).name = name))) (by kernel_rfl) (by kernel_rfl) rfl (by kernel_rfl) rfl (fun w hw => entry1_calls (base_heap hw 0 rfl hX)) ?_
  refine Rg.nx (fun _ _ h => h) [16,15,14,13,12,11,10,9,8,7,5,4,1,0] rfl ?_
  refine Ev.cd 16 rfl (fun h3 => ?_) (fun h3 => ?_)
  ·
   have h4 := of_decide_eq_true h3
   refine Ev.sr 2 ?_
   refine Rg.mv 17 5 rfl ?_
   refine Rg.as 4 17 rfl ?_
   refine Rg.nx (fun _ _ h => h) [17,16,15,14,13,12,11,10,9,8,7,5,4,1,0] rfl ?_
   refine Ev.rt ?_
   refine At.via (Q := Q) hQ ?_
   refine At.ret1 rfl rfl rfl ?_
   exact fun w hw => ⟨(by rw [idxE_some (k := k) (by omega) (of_decide_eq_true h3) hno]), hw.base_below 0 rfl⟩
  ·
   have h5 := of_decide_eq_false h3
   refine Ev.sk ?_
   refine At.nx (fun _ _ h => h) [16,15,14,13,12,11,10,9,8,7,5,4,1,0] rfl ?_
   refine Ev.rg 2 ?_
   refine Rg.p 18 (.binOp .add 3 (.tmp 8) (.const (.int .i64 1)) 3) (pv_addb rfl rfl (in_i64 (by omega) (by omega))) ?_
   refine Rg.mv 8 18 rfl ?_
   refine Rg.fin rfl ?_
   refine At.round (fun _ _ h => h) (k + 1) [0] ⟨(by omega), (fun i_ h_ => by rcases Nat.lt_succ_iff_lt_or_eq.1 h_ with h1_ | h1_; exact hno i_ h1_; subst h1_; exact of_decide_eq_false h3)⟩ (by show es.length - (k + 1) < es.length - k; omega) (.cons (rfl) (.cons (rfl) (.cons (rfl) (.cons (rfl) (.cons (rfl) (.nil _)))))) rfl (by decide)
 ·
  have h6 := of_decide_eq_false h1
  refine Ev.xt 0 ?_
  refine At.nx (fun _ _ h => h) [4] rfl ?_
  refine Ev.sr 1 ?_
  refine Rg.ac 4 (.int .i64 (-1)) ?_
  refine Rg.nx (fun _ _ h => h) [4] rfl ?_
  refine Ev.rt ?_
  refine At.via (Q := Q) hQ ?_
  refine At.ret1 rfl rfl rfl ?_
  exact fun w hw => ⟨(by rw [idxE_none (fun i_ h_ => hno i_ (by omega))]), hw.base_below 0 rfl⟩

def dot : ByteArray := ⟨#[46]⟩
def dots : ByteArray := ⟨#[46, 46]⟩
def entryS (ns : List Node) (dir : Int) (name : ByteArray) : Int :=
  cond (!isS ns dir 2) 0 <| cond (decide (name = dot)) dir <| cond (decide (name = dots)) (nd ns dir.toNat).parent <|
  cond (decide (idxE (nd ns dir.toNat).list name < 0)) 0 (en (nd ns dir.toNat).list (idxE (nd ns dir.toNat).list name).toNat).node

set_option maxHeartbeats 8000000 in
theorem Entry_calls {dir : Int} {name : ByteArray} {p : Option Addr} {ns : List Node} {al : List Loc} {cap : Nat} {gen : Int} {w : World} (hT : NodesAt (Low w) w p ns al) (hW : NodesWf ns) :
  Calls Try.prog 21 #[.agg #[.slice p ns.length cap, .int .u32 gen], .int .i64 dir, .string name] w (Ret w (.int .i64 (entryS ns dir name))) := by
 refine calls_ofQ (args := [_, _, _]) [base w (Low w)] Try.func21 (by kernel_rfl) (by kernel_rfl) (Heap.start w) ?_
 intro Q hQ
 have hir := idxE_range (nd ns dir.toNat).list name
 refine Ev.sr 3 ?_
 refine Rg.bx 3 25 (.tmp 0) rfl fun b1 => ?_
 refine Rg.bx 5 9 (.tmp 2) rfl fun b2 => ?_
 refine Rg.ac 6 (.int .i64 0) ?_
 refine Rg.nx (fun _ _ h => h) [6,5,3,1] rfl ?_
 refine Ev.sq ?_
 refine Ev.sr 4 ?_
 refine Rg.p 9 (.load 25 (.tmp 3)) (v := .agg #[.slice p ns.length cap, .int .u32 gen]) (pv_load_blk_whole 1 rfl rfl (by kernel_rfl) (by kernel_rfl)) ?_
 refine Rg.mv 10 1 rfl ?_
 refine Rg.cl (some 11) 53 #[.tmp 9, .tmp 10, .const (.int .u32 2)] #[25, 3, 33] (v := .bool (isS ns dir 2)) rfl (fun w hw => is_calls ((hT).keep (hw.at_ 2 rfl) (fun k hk => hw.lt 2 rfl hk))) ?_
 refine Rg.p 12 (.unOp .not 4 (.tmp 11)) (pv_not (b := isS ns dir 2) rfl) ?_
 refine Rg.nx (fun _ _ h => h) [12,6,5,3,1] rfl ?_
 refine Ev.cd 12 rfl (fun h1 => ?_) (fun h1 => ?_)
 ·
  have h2 := not_t h1
  refine Ev.sr 1 ?_
  refine Rg.ac 6 (.int .i64 0) ?_
  refine Rg.nx (fun _ _ h => h) [6,5,3,1] rfl ?_
  refine Ev.rt ?_
  refine At.via (Q := Q) hQ ?_
  refine At.ret1 rfl rfl rfl ?_
  exact fun w hw => ⟨(by unfold entryS dot dots; rw [h1]; rfl), hw.base_below 2 rfl⟩
 ·
  have h3 := not_f h1
  have ⟨h4, h5, h6, h7⟩ := isS_t h3
  refine Ev.sk ?_
  refine At.nx (fun _ _ h => h) [6,5,3,1] rfl ?_
  refine Ev.sr 7 ?_
  refine Rg.fa 13 25 3 0 0 rfl ?_
  refine Rg.ld 14 22 13 1 rfl rfl rfl ?_
  refine Rg.mv 15 1 rfl ?_
  have ⟨q3, o4, hp5⟩ := hT.rows.adr (by omega)
  refine Rg.p 16 (.indexAddr 22 (.tmp 14) (.tmp 15)) (v := .pointer (some ⟨q3, o4 + (dir).toNat * 25, none⟩)) (pv_indexAddr' rfl hp5 rfl (e := 44) (sz := 25) (by kernel_rfl) (by omega) (by omega)) ?_
  refine Rg.p 17 (.load 44 (.tmp 16)) (v := .agg ((nd ns ((dir).toNat)).cells (lc al ((dir).toNat)))) (pv_load_node (i := (dir).toNat) (ns := ns) rfl hp5 (by omega) (by kernel_rfl) (by kernel_rfl) (fun w hw => ((hT).keep (hw.at_ 2 rfl) (fun k hk => hw.lt 2 rfl hk)))) ?_
  refine Rg.al 7 44 (.agg #[.int .u32 0, .int .u32 0, .int .u32 0, .int .u32 0, .int .u32 0, .int .i64 0, .int .u32 0, .int .u32 0, .int .u32 0, .int .u32 0, .int .u32 0, .int .u32 0, .slice none 0 0, .int .u8 0, .int .u8 0, .int .u8 0, .int .u8 0, .int .u8 0, .int .u8 0, .int .u8 0, .int .u8 0, .string ⟨#[]⟩, .slice none 0 0, .int .i64 0, .int .u64 0]) fun b6 => ?_
  refine Rg.st 44 7 (.tmp 17) 0 ((nd ns ((dir).toNat)).cells (lc al ((dir).toNat))) rfl rfl rfl ?_
  refine Rg.nx (fun _ _ h => h) [7,6,5,1] rfl ?_
  refine Ev.sq ?_
  refine Ev.sr 1 ?_
  refine Rg.ld 18 9 5 1 rfl rfl rfl ?_
  refine Rg.nx (fun _ _ h => h) [18,7,6,5,1] rfl ?_
  refine Ev.bk 0 ?_
  refine Ev.sr 2 ?_
  refine Rg.p 20 (.binOp .eql 9 (.tmp 18) (.const (.string ⟨#[46]⟩)) 9) (pv_eql_str rfl rfl) ?_
  refine Rg.as 19 20 rfl ?_
  refine Rg.nx (fun _ _ h => h) [19,18,7,6,5,1] rfl ?_
  refine Ev.cd 19 rfl (fun h8 => ?_) (fun h8 => ?_)
  ·
   have h9 := of_decide_eq_true h8
   refine Ev.sr 2 ?_
   refine Rg.mv 21 1 rfl ?_
   refine Rg.as 6 21 rfl ?_
   refine Rg.nx (fun _ _ h => h) [7,6,5] rfl ?_
   refine Ev.rt ?_
   refine At.via (Q := Q) hQ ?_
   refine At.ret1 rfl rfl rfl ?_
   exact fun w hw => ⟨(by unfold entryS dot dots; rw [h1, h8]; rfl), hw.base_below 3 rfl⟩
  ·
   have h10 := of_decide_eq_false h8
   refine Ev.sr 2 ?_
   refine Rg.p 23 (.binOp .eql 9 (.tmp 18) (.const (.string ⟨#[46, 46]⟩)) 9) (pv_eql_str rfl rfl) ?_
   refine Rg.as 22 23 rfl ?_
   refine Rg.nx (fun _ _ h => h) [22,7,6,5] rfl ?_
   refine Ev.cd 22 rfl (fun h11 => ?_) (fun h11 => ?_)
   ·
    have h12 := of_decide_eq_true h11
    refine Ev.sr 3 ?_
    refine Rg.fa 24 44 7 13 23 rfl ?_
    refine Rg.ld 25 3 24 0 rfl rfl rfl ?_
    refine Rg.as 6 25 rfl ?_
    refine Rg.nx (fun _ _ h => h) [7,6,5] rfl ?_
    refine Ev.rt ?_
    refine At.via (Q := Q) hQ ?_
    refine At.ret1 rfl rfl rfl ?_
    exact fun w hw => ⟨(by unfold entryS dot dots; rw [h1, h8, h11]; rfl), hw.base_below 3 rfl⟩
   ·
    have h13 := of_decide_eq_false h11
    refine Ev.sk ?_
    refine At.nx (fun _ _ h => h) [7,6,5] rfl ?_
    refine Ev.sr 5 ?_
    refine Rg.fa 26 44 7 12 22 rfl ?_
    refine Rg.ld 27 42 26 0 rfl rfl rfl ?_
    refine Rg.p 28 (.makeFunc (.func 65) #[] #[.tmp 5]) (v := .func (.func 65) #[] #[.pointer (some ⟨b2, 0, none⟩)]) (pv_makeFunc (xs := [.tmp 5]) rfl) ?_
    refine Rg.cl (some 29) 64 #[.tmp 27, .tmp 28] #[42, 141] (v := .int .i64 (idxE ((nd ns ((dir).toNat)).list) name)) rfl (fun w hw => indexFuncE_calls ((((hT.node ((dir).toNat) (by omega))).list).keep (hw.at_ 3 rfl) (fun k hk => hw.lt 3 rfl hk)) ((hW.node _).list) (hw.blk_at 1 rfl)) ?_
    refine Rg.as 8 29 rfl ?_
    refine Rg.nx (fun _ _ h => h) [8,7,6] rfl ?_
    refine Ev.sq ?_
    refine Ev.sr 2 ?_
    refine Rg.mv 30 8 rfl ?_
    refine Rg.p 31 (.binOp .lss 3 (.tmp 30) (.const (.int .i64 0)) 3) (pv_lss rfl rfl) ?_
    refine Rg.nx (fun _ _ h => h) [31,8,7,6] rfl ?_
    refine Ev.cd 31 rfl (fun h14 => ?_) (fun h14 => ?_)
    ·
     have h15 := of_decide_eq_true h14
     refine Ev.sr 1 ?_
     refine Rg.ac 6 (.int .i64 0) ?_
     refine Rg.nx (fun _ _ h => h) [8,7,6] rfl ?_
     refine Ev.rt ?_
     refine At.via (Q := Q) hQ ?_
     refine At.ret1 rfl rfl rfl ?_
     exact fun w hw => ⟨(by unfold entryS dot dots; rw [h1, h8, h11, h14]; rfl), hw.base_below 3 rfl⟩
    ·
     have h16 := of_decide_eq_false h14
     refine Ev.sk ?_
     refine At.nx (fun _ _ h => h) [8,7,6] rfl ?_
     refine Ev.sr 7 ?_
     refine Rg.fa 32 44 7 12 22 rfl ?_
     refine Rg.ld 33 42 32 0 rfl rfl rfl ?_
     refine Rg.mv 34 8 rfl ?_
     have ⟨q7, o8, hp9⟩ := ((hT.node ((dir).toNat) (by omega))).list.adr (by omega)
     refine Rg.p 35 (.indexAddr 42 (.tmp 33) (.tmp 34)) (v := .pointer (some ⟨q7, o8 + (idxE ((nd ns ((dir).toNat)).list) name).toNat * 3, none⟩)) (pv_indexAddr' rfl hp9 rfl (e := 50) (sz := 3) (by kernel_rfl) (by omega) (by omega)) ?_
     refine Rg.fa 36 50 35 1 1 rfl ?_
     refine Rg.p 37 (.load 3 (.tmp 36)) (v := .int .i64 ((en ((nd ns ((dir).toNat)).list) ((idxE ((nd ns ((dir).toNat)).list) name).toNat)).node)) (pv_load rfl (by kernel_rfl) (fun w hw => ((((hT.node ((dir).toNat) (by omega))).list).keep (hw.at_ 3 rfl) (fun k hk => hw.lt 3 rfl hk)).cell _ _ hp9 _ (by omega) 1 (by decide))) ?_
     refine Rg.as 6 37 rfl ?_
     refine Rg.nx (fun _ _ h => h) [6] rfl ?_
     refine Ev.rt ?_
     refine At.via (Q := Q) hQ ?_
     refine At.ret1 rfl rfl rfl ?_
     exact fun w hw => ⟨(by unfold entryS dot dots; rw [h1, h8, h11, h14]; rfl), hw.base_below 3 rfl⟩

end Go.Proofs.Ytfhhggcdmgjbcaa.Sx

namespace Go.Proofs.Ytfhhggcdmgjbcaa.Sx
open Go Go.RowKit Go.Proofs

def findS (ns : List Node) (h : List Int) : Int × Int :=
  if (getH h).2.2 ≠ 0 then (0, 10001) else
  cond (!thereS ns (getH h).1 || !decide ((nd ns (getH h).1.toNat).gen = (getH h).2.1)) (0, 70) ((getH h).1, 0)

set_option maxHeartbeats 8000000 in
theorem Find_calls {q : Option Addr} {h : List Int} {hc : Nat} {p : Option Addr} {ns : List Node} {al : List Loc} {cap : Nat} {gen : Int} {w : World} (hT : NodesAt (Low w) w p ns al) (hW : NodesWf ns) (hB : BytesAt (Low w) w q h) (hhl : h.length ≤ 4294967296) (hhc : h.length ≤ hc) :
  Calls Try.prog 19 #[.agg #[.slice p ns.length cap, .int .u32 gen], .slice q h.length hc] w (Ret w (.tuple #[.int .i64 (findS ns h).1, .int .u32 (findS ns h).2])) := by
 refine calls_ofQ (args := [_, _]) [base w (Low w)] Try.func19 (by kernel_rfl) (by kernel_rfl) (Heap.start w) ?_
 intro Q hQ
 refine Ev.sr 3 ?_
 refine Rg.bx 2 25 (.tmp 0) rfl fun b1 => ?_
 refine Rg.ac 4 (.int .i64 0) ?_
 refine Rg.ac 5 (.int .u32 0) ?_
 refine Rg.nx (fun _ _ h => h) [5,4,2,1] rfl ?_
 refine Ev.sr 8 ?_
 refine Rg.mv 9 1 rfl ?_
 refine Rg.cl (some 10) 62 #[.tmp 9] #[29] (v := .tuple #[.agg #[.int .i64 ((getH h).1), .int .u32 ((getH h).2.1)], .int .i64 ((getH h).2.2)]) rfl (fun w hw => hGet_calls (((hB).keep (hw.at_ 1 rfl) (fun k hk => hw.lt 1 rfl hk))) hhl hhc) ?_
 refine Rg.mv 8 10 rfl ?_
 refine Rg.ex 11 8 0 rfl rfl ?_
 refine Rg.ex 12 8 1 rfl rfl ?_
 refine Rg.al 6 132 (.agg #[.int .i64 0, .int .u32 0]) fun b2 => ?_
 refine Rg.st 132 6 (.tmp 11) 0 #[.int .i64 ((getH h).1), .int .u32 ((getH h).2.1)] rfl rfl rfl ?_
 refine Rg.as 7 12 rfl ?_
 refine Rg.nx (fun _ _ h => h) [7,6,5,4,2] rfl ?_
 refine Ev.sq ?_
 refine Ev.bk 0 ?_
 refine Ev.sr 3 ?_
 refine Rg.mv 14 7 rfl ?_
 refine Rg.p 15 (.binOp .neq 30 (.tmp 14) (.const (.int .i64 0)) 30) (pv_neq rfl rfl) ?_
 refine Rg.as 13 15 rfl ?_
 refine Rg.nx (fun _ _ h => h) [13,6,5,4,2] rfl ?_
 refine Ev.cd 13 rfl (fun h1 => ?_) (fun h1 => ?_)
 ·
  have h2 := of_decide_eq_false (not_t h1)
  refine Ev.sr 2 ?_
  refine Rg.ac 4 (.int .i64 0) ?_
  refine Rg.ac 5 (.int .u32 10001) ?_
  refine Rg.nx (fun _ _ h => h) [6,5,4] rfl ?_
  refine Ev.rt ?_
  refine At.via (Q := Q) hQ ?_
  refine At.ret2 rfl rfl rfl rfl ?_
  exact fun w hw => ⟨(by unfold findS; rw [if_pos (by simpa using h1)]), hw.base_below 2 rfl⟩
 ·
  have h3 := of_decide_eq_true (not_f h1)
  refine Ev.sq ?_
  refine ev_quiet (n := 18) (E' := [(4, .int .i64 0), (5, .int .u32 0), (6, .pointer (some ⟨b2, 0, none⟩)), (16, .bool ((!(thereS ns ((getH h).1))) || (!(decide (((nd ns (((getH h).1).toNat)).gen) = ((getH h).2.1))))))]) (by kernel_rfl) (by kernel_rfl) ?_ ?_
  ·
   refine Qg.pure (d := 17) (op := .load 25 (.tmp 2)) (g := none) (v := .agg #[.slice p ns.length cap, .int .u32 gen]) (by kernel_rfl) (by kernel_rfl) (pv_load_blk_whole 1 rfl rfl (by kernel_rfl) (by kernel_rfl)) ?_
   refine Qg.pure (d := 18) (op := .fieldAddr 132 (.tmp 6) 0) (g := none) (v := .pointer (some ⟨b2, 0 + 0, none⟩)) (by kernel_rfl) (by kernel_rfl) (pv_fieldAddr rfl (n := 0) (by kernel_rfl)) ?_
   refine Qg.pure (d := 19) (op := .load 3 (.tmp 18)) (g := none) (v := .int .i64 ((getH h).1)) (by kernel_rfl) (by kernel_rfl) (pv_load_blk 0 rfl rfl (by kernel_rfl) rfl) ?_
   refine qg_call (d := some 20) (f := 54) (xs := #[.tmp 17, .tmp 19]) (ts := #[25, 3]) (g := none) (v := .bool (thereS ns ((getH h).1))) (by kernel_rfl) (by kernel_rfl) (by kernel_rfl) rfl (fun w hw => there_calls ((hT).keep (hw.at_ 2 rfl) (fun k hk => hw.lt 2 rfl hk))) ?_
   refine Qg.pure (d := 21) (op := .unOp .not 4 (.tmp 20)) (g := none) (v := .bool (!(thereS ns ((getH h).1)))) (by kernel_rfl) (by kernel_rfl) (pv_not (b := thereS ns ((getH h).1)) rfl) ?_
   refine Qg.pure (d := 22) (op := .move (.tmp 21)) (g := none) (v := .bool (!(thereS ns ((getH h).1)))) (by kernel_rfl) (by kernel_rfl) (pv_move rfl) ?_
   refine Qg.split 17 [(33, .bool ((!(thereS ns ((getH h).1))) || (!(decide (((nd ns (((getH h).1).toNat)).gen) = ((getH h).2.1)))))), (4, .int .i64 0), (5, .int .u32 0), (6, .pointer (some ⟨b2, 0, none⟩))] [blk b2 (.cells #[.int .i64 ((getH h).1), .int .u32 ((getH h).2.1)] 132 (0, 0)), blk b1 (.cells #[.slice p ns.length cap, .int .u32 gen] 25 (0, 0)), base w (Low w)] (s := 22) (g := !(thereS ns ((getH h).1))) rfl (by decide) (fun h4 => ?_) (fun h4 => ?_) ?_
   ·
    refine Qg.skips 16 (by kernel_rfl) ?_
    refine Qg.pure (d := 33) (op := .pick (.tmp 22) (.const (.bool true)) (.tmp 32)) (g := none) (v := .bool true) (by kernel_rfl) (by kernel_rfl) (pv_pick_t rfl rfl) ?_
    exact Qg.mid (.cons (or_of_t h4 rfl) (.cons (rfl) (.cons (rfl) (.cons (rfl) (.nil _))))) rfl
   ·
    have h5 := not_f h4
    have ⟨h6, h7, h8⟩ := thereS_t h5
    refine Qg.pure (d := 23) (op := .fieldAddr 25 (.tmp 2) 0) (g := some (5, false)) (v := .pointer (some ⟨b1, 0 + 0, none⟩)) (by kernel_rfl) (by kernel_rfl) (pv_fieldAddr rfl (n := 0) (by kernel_rfl)) ?_
    refine Qg.pure (d := 24) (op := .load 22 (.tmp 23)) (g := some (5, false)) (v := .slice p ns.length cap) (by kernel_rfl) (by kernel_rfl) (pv_load_blk 1 rfl rfl (by kernel_rfl) rfl) ?_
    refine Qg.pure (d := 25) (op := .fieldAddr 132 (.tmp 6) 0) (g := some (5, false)) (v := .pointer (some ⟨b2, 0 + 0, none⟩)) (by kernel_rfl) (by kernel_rfl) (pv_fieldAddr rfl (n := 0) (by kernel_rfl)) ?_
    refine Qg.pure (d := 26) (op := .load 3 (.tmp 25)) (g := some (5, false)) (v := .int .i64 ((getH h).1)) (by kernel_rfl) (by kernel_rfl) (pv_load_blk 0 rfl rfl (by kernel_rfl) rfl) ?_
    have ⟨q3, o4, hp5⟩ := hT.rows.adr (by omega)
    refine Qg.pure (d := 27) (op := .indexAddr 22 (.tmp 24) (.tmp 26)) (g := some (5, false)) (v := .pointer (some ⟨q3, o4 + ((getH h).1).toNat * 25, none⟩)) (by kernel_rfl) (by kernel_rfl) (pv_indexAddr' rfl hp5 rfl (e := 44) (sz := 25) (by kernel_rfl) (by omega) (by omega)) ?_
    refine Qg.pure (d := 28) (op := .fieldAddr 44 (.tmp 27) 1) (g := some (5, false)) (v := .pointer (some ⟨q3, o4 + ((getH h).1).toNat * 25 + 1, none⟩)) (by kernel_rfl) (by kernel_rfl) (pv_fieldAddr rfl (n := 1) (by kernel_rfl)) ?_
    refine Qg.pure (d := 29) (op := .load 23 (.tmp 28)) (g := some (5, false)) (v := .int .u32 ((nd ns (((getH h).1).toNat)).gen)) (by kernel_rfl) (by kernel_rfl) (pv_load rfl (by kernel_rfl) (fun w hw => ((hT).keep (hw.at_ 2 rfl) (fun _ h => h)).rows.cell _ _ hp5 _ (by omega) 1 (by decide))) ?_
    refine Qg.pure (d := 30) (op := .fieldAddr 132 (.tmp 6) 1) (g := some (5, false)) (v := .pointer (some ⟨b2, 0 + 1, none⟩)) (by kernel_rfl) (by kernel_rfl) (pv_fieldAddr rfl (n := 1) (by kernel_rfl)) ?_
    refine Qg.pure (d := 31) (op := .load 23 (.tmp 30)) (g := some (5, false)) (v := .int .u32 ((getH h).2.1)) (by kernel_rfl) (by kernel_rfl) (pv_load_blk 0 rfl rfl (by kernel_rfl) rfl) ?_
    refine Qg.pure (d := 32) (op := .binOp .neq 23 (.tmp 29) (.tmp 31) 23) (g := some (5, false)) (v := .bool (!(decide (((nd ns (((getH h).1).toNat)).gen) = ((getH h).2.1))))) (by kernel_rfl) (by kernel_rfl) (pv_neq rfl rfl) ?_
    refine Qg.pure (d := 33) (op := .pick (.tmp 22) (.const (.bool true)) (.tmp 32)) (g := none) (v := .bool (!(decide (((nd ns (((getH h).1).toNat)).gen) = ((getH h).2.1))))) (by kernel_rfl) (by kernel_rfl) (pv_pick_f rfl rfl) ?_
    exact Qg.mid (.cons (or_of_f h4 rfl) (.cons (rfl) (.cons (rfl) (.cons (rfl) (.nil _))))) rfl
   refine Qg.pure (d := 16) (op := .assign (.tmp 33)) (g := none) (v := .bool ((!(thereS ns ((getH h).1))) || (!(decide (((nd ns (((getH h).1).toNat)).gen) = ((getH h).2.1)))))) (by kernel_rfl) (by kernel_rfl) (pv_assign rfl) ?_
   exact Qg.mid (.cons rfl (.cons rfl (.cons rfl (.cons rfl (.nil _))))) rfl
  refine At.nx (fun _ _ h => h) [16,6,5,4] rfl ?_
  refine Ev.cd 16 rfl (fun h9 => ?_) (fun h9 => ?_)
  ·
   refine Ev.sr 2 ?_
   refine Rg.ac 4 (.int .i64 0) ?_
   refine Rg.ac 5 (.int .u32 70) ?_
   refine Rg.nx (fun _ _ h => h) [6,5,4] rfl ?_
   refine Ev.rt ?_
   refine At.via (Q := Q) hQ ?_
   refine At.ret2 rfl rfl rfl rfl ?_
   exact fun w hw => ⟨(by unfold findS; rw [if_neg (by simpa using h1), h9]; rfl), hw.base_below 2 rfl⟩
  ·
   have ⟨h10, h11⟩ := or_f h9
   have h12 := not_f h10
   have ⟨h13, h14, h15⟩ := thereS_t h12
   have h16 := of_decide_eq_true (not_f h11)
   refine Ev.sk ?_
   refine At.nx (fun _ _ h => h) [6,5,4] rfl ?_
   refine Ev.sr 4 ?_
   refine Rg.fa 34 132 6 0 0 rfl ?_
   refine Rg.ld 35 3 34 0 rfl rfl rfl ?_
   refine Rg.as 4 35 rfl ?_
   refine Rg.ac 5 (.int .u32 0) ?_
   refine Rg.nx (fun _ _ h => h) [5,4] rfl ?_
   refine Ev.rt ?_
   refine At.via (Q := Q) hQ ?_
   refine At.ret2 rfl rfl rfl rfl ?_
   exact fun w hw => ⟨(by unfold findS; rw [if_neg (by simpa using h1), h9]; rfl), hw.base_below 2 rfl⟩

def hdlE (ns : List Node) (n : Int) : Int := cond (!thereS ns n || decide (1024 < n)) 1 0
def hdlB (ns : List Node) (n : Int) : List Int := cond (!thereS ns n || decide (1024 < n)) [] (hB n (nd ns n.toNat).gen)

set_option maxHeartbeats 8000000 in
theorem Handle_calls {n : Int} {p : Option Addr} {ns : List Node} {al : List Loc} {cap : Nat} {gen : Int} {w : World} (hT : NodesAt (Low w) w p ns al) (hW : NodesWf ns) :
  Calls Try.prog 17 #[.agg #[.slice p ns.length cap, .int .u32 gen], .int .i64 n] w (RetN w (fun x : Option Addr × Nat => (hdlB ns n).length ≤ x.2) (fun x => .tuple #[.slice x.1 (hdlB ns n).length x.2, .int .i64 (hdlE ns n)]) (fun x => [own 5 1 x.1 (hdlB ns n).length x.2 (bv (hdlB ns n))])) := by
 refine calls_ofQ (args := [_, _]) [base w (Low w)] Try.func17 (by kernel_rfl) (by kernel_rfl) (Heap.start w) ?_
 intro Q hQ
 refine Ev.sr 3 ?_
 refine Rg.bx 2 25 (.tmp 0) rfl fun b1 => ?_
 refine Rg.ac 4 (.slice none 0 0) ?_
 refine Rg.ac 5 (.int .i64 0) ?_
 refine Rg.nx (fun _ _ h => h) [5,4,2,1] rfl ?_
 refine Ev.sq ?_
 refine Ev.sr 8 ?_
 refine Rg.p 6 (.load 25 (.tmp 2)) (v := .agg #[.slice p ns.length cap, .int .u32 gen]) (pv_load_blk_whole 0 rfl rfl (by kernel_rfl) (by kernel_rfl)) ?_
 refine Rg.mv 7 1 rfl ?_
 refine Rg.cl (some 8) 54 #[.tmp 6, .tmp 7] #[25, 3] (v := .bool (thereS ns n)) rfl (fun w hw => there_calls ((hT).keep (hw.at_ 1 rfl) (fun k hk => hw.lt 1 rfl hk))) ?_
 refine Rg.p 9 (.unOp .not 4 (.tmp 8)) (pv_not (b := thereS ns n) rfl) ?_
 refine Rg.mv 10 9 rfl ?_
 refine Rg.go 8 13 10 (decide (1024 < n)) rfl (fun h1 => ?_) (fun h1 => ?_) ?_
 ·
  refine Rg.skips 7 (by kernel_rfl) ?_
  refine Rg.p 13 (.pick (.tmp 10) (.const (.bool true)) (.tmp 12)) (pv_pick_t rfl rfl) ?_
  exact Rg.em 10 h1 (ot_t h1) rfl rfl
 ·
  have h2 := not_f h1
  have ⟨h3, h4, h5⟩ := thereS_t h2
  refine Rg.pg 4 false 11 (.move (.tmp 1)) (pv_move rfl) ?_
  refine Rg.pg 4 false 12 (.binOp .gtr 3 (.tmp 11) (.const (.int .i64 1024)) 3) (pv_gtr rfl rfl) ?_
  refine Rg.p 13 (.pick (.tmp 10) (.const (.bool true)) (.tmp 12)) (pv_pick_f rfl rfl) ?_
  exact Rg.em 10 h1 (ot_f h1) rfl rfl
 refine Rg.nx (fun _ _ h => h) [13,5,4,2,1] rfl ?_
 refine Ev.cd 13 rfl (fun h6 => ?_) (fun h6 => ?_)
 ·
  refine Ev.sr 2 ?_
  refine Rg.ac 4 (.slice none 0 0) ?_
  refine Rg.ac 5 (.int .i64 1) ?_
  refine Rg.nx (fun _ _ h => h) [5,4,2,1] rfl ?_
  refine Ev.rt ?_
  refine At.via (Q := Q) hQ ?_
  refine At.ret2 rfl rfl rfl rfl ?_
  have e1_ := h6
  exact fun w hw => ⟨(none, 0), (by unfold hdlB; rw [e1_]; exact Nat.le_refl _), (by unfold hdlB hdlE; rw [e1_]; rfl), (by unfold hdlB; rw [e1_]; exact (hw.ownNil 5 1).pick [0, 2] (by decide))⟩
 ·
  have ⟨h7, h8⟩ := or_f h6
  have h9 := not_f h7
  have ⟨h10, h11, h12⟩ := thereS_t h9
  have h13 := of_decide_eq_false h8
  refine Ev.sk ?_
  refine At.nx (fun _ _ h => h) [5,4,2,1] rfl ?_
  refine Ev.sr 13 ?_
  refine Rg.mv 14 1 rfl ?_
  refine Rg.fa 15 25 2 0 0 rfl ?_
  refine Rg.ld 16 22 15 0 rfl rfl rfl ?_
  refine Rg.mv 17 1 rfl ?_
  have ⟨q2, o3, hp4⟩ := hT.rows.adr (by omega)
  refine Rg.p 18 (.indexAddr 22 (.tmp 16) (.tmp 17)) (v := .pointer (some ⟨q2, o3 + (n).toNat * 25, none⟩)) (pv_indexAddr' rfl hp4 rfl (e := 44) (sz := 25) (by kernel_rfl) (by omega) (by omega)) ?_
  refine Rg.fa 19 44 18 1 1 rfl ?_
  refine Rg.p 20 (.load 23 (.tmp 19)) (v := .int .u32 ((nd ns ((n).toNat)).gen)) (pv_load rfl (by kernel_rfl) (fun w hw => ((hT).keep (hw.at_ 1 rfl) (fun _ h => h)).rows.cell _ _ hp4 _ (by omega) 1 (by decide))) ?_
  refine Rg.p 21 (.build 132 #[(0, .tmp 14), (1, .tmp 20)]) (v := .agg #[.int .i64 n, .int .u32 ((nd ns ((n).toNat)).gen)]) (pv_build (parts := [(0, .tmp 14), (1, .tmp 20)]) (vs := [.int .i64 n, .int .u32 ((nd ns ((n).toNat)).gen)]) (fs := [(0, 1), (1, 1)]) (zv := .agg #[.int .i64 0, .int .u32 0]) (cs := #[.int .i64 n, .int .u32 ((nd ns ((n).toNat)).gen)]) rfl (by kernel_rfl) (by kernel_rfl) (by kernel_rfl)) ?_
  refine Rg.cn (T := Option Addr × Nat) (some 22) 61 #[.tmp 21] #[132] (v := fun ⟨p5, c6⟩ => .tuple #[.slice p5 16 c6, .int .i64 0]) (L := fun ⟨p5, c6⟩ => [own 5 1 p5 16 c6 (bv (hB n ((nd ns ((n).toNat)).gen)))]) rfl (fun w hw => hPut_calls (by omega) (by omega)) ?_
  rintro ⟨p5, c6⟩ hc_c6
  dsimp only [putE, List.append, HAppend.hAppend, Append.append]
  have hk_c6 : 16 ≤ c6 := hc_c6
  refine Rg.ex 23 22 0 rfl rfl ?_
  refine Rg.ex 24 22 1 rfl rfl ?_
  refine Rg.as 4 23 rfl ?_
  refine Rg.as 5 24 rfl ?_
  refine Rg.nx (fun _ _ h => h) [5,4] rfl ?_
  refine Ev.rt ?_
  refine At.via (Q := Q) hQ ?_
  refine At.ret2 rfl rfl rfl rfl ?_
  have e1_ := h6
  exact fun w hw => ⟨(p5, c6), (by unfold hdlB; rw [e1_]; exact hk_c6), (by unfold hdlB hdlE; rw [e1_]; rfl), (by unfold hdlB; rw [e1_]; exact hw.pick [0, 2] (by decide))⟩

def sizeL (n : Node) : List (Int × Int) := upd (upd [] 1 (n.data.length : Int)) 5 (n.target.size : Int)
def sizeS (n : Node) : Int := cond (!(look (sizeL n) n.kind).isSome) (32 * (n.list.length : Int)) ((look (sizeL n) n.kind).getD 0)
def attrsC (n : Node) (i : Int) : Array Value := #[.int .u32 n.kind, .int .u32 n.mode, .int .u32 (IntKind.u32.wrap n.links), .int .u32 n.user, .int .u32 n.group, .int .u64 (IntKind.u64.wrap (sizeS n)), .int .u64 (IntKind.u64.wrap (sizeS n)), .int .u64 (IntKind.u64.wrap i),
  .int .u32 n.rs, .int .u32 n.rn, .int .u32 n.ws, .int .u32 n.wn, .int .u32 n.ts, .int .u32 n.tn]
def attrs0 : Array Value := #[.int .u32 0, .int .u32 0, .int .u32 0, .int .u32 0, .int .u32 0, .int .u64 0, .int .u64 0, .int .u64 0, .int .u32 0, .int .u32 0, .int .u32 0, .int .u32 0, .int .u32 0, .int .u32 0]
def attrsS (ns : List Node) (n : Int) : Array Value := cond (!thereS ns n) attrs0 (attrsC (nd ns n.toNat) n)

set_option maxHeartbeats 8000000 in
theorem Attrs_calls {n : Int} {p : Option Addr} {ns : List Node} {al : List Loc} {cap : Nat} {gen : Int} {w : World} (hT : NodesAt (Low w) w p ns al) (hW : NodesWf ns) :
  Calls Try.prog 18 #[.agg #[.slice p ns.length cap, .int .u32 gen], .int .i64 n] w (Ret w (.tuple #[.agg (attrsS ns n), .bool (thereS ns n)])) := by
 refine calls_ofQ (args := [_, _]) [base w (Low w)] Try.func18 (by kernel_rfl) (by kernel_rfl) (Heap.start w) ?_
 intro Q hQ
 have hlen := hW.len
 have htg := (hW.node n.toNat).target
 have hlg := (hW.node n.toNat).list
 refine Ev.sr 3 ?_
 refine Rg.bx 2 25 (.tmp 0) rfl fun b1 => ?_
 refine Rg.al 4 38 (.agg #[.int .u32 0, .int .u32 0, .int .u32 0, .int .u32 0, .int .u32 0, .int .u64 0, .int .u64 0, .int .u64 0, .int .u32 0, .int .u32 0, .int .u32 0, .int .u32 0, .int .u32 0, .int .u32 0]) fun b2 => ?_
 refine Rg.ac 5 (.bool false) ?_
 refine Rg.nx (fun _ _ h => h) [5,4,2,1] rfl ?_
 refine Ev.sq ?_
 refine Ev.sr 4 ?_
 refine Rg.p 10 (.load 25 (.tmp 2)) (v := .agg #[.slice p ns.length cap, .int .u32 gen]) (pv_load_blk_whole 1 rfl rfl (by kernel_rfl) (by kernel_rfl)) ?_
 refine Rg.mv 11 1 rfl ?_
 refine Rg.cl (some 12) 54 #[.tmp 10, .tmp 11] #[25, 3] (v := .bool (thereS ns n)) rfl (fun w hw => there_calls ((hT).keep (hw.at_ 2 rfl) (fun k hk => hw.lt 2 rfl hk))) ?_
 refine Rg.p 13 (.unOp .not 4 (.tmp 12)) (pv_not (b := thereS ns n) rfl) ?_
 refine Rg.nx (fun _ _ h => h) [13,5,4,2,1] rfl ?_
 refine Ev.cd 13 rfl (fun h1 => ?_) (fun h1 => ?_)
 ·
  have h2 := not_t h1
  refine Ev.sr 3 ?_
  refine Rg.p 14 (.build 38 #[]) (v := .agg #[.int .u32 0, .int .u32 0, .int .u32 0, .int .u32 0, .int .u32 0, .int .u64 0, .int .u64 0, .int .u64 0, .int .u32 0, .int .u32 0, .int .u32 0, .int .u32 0, .int .u32 0, .int .u32 0]) (pv_build (parts := []) (vs := []) (fs := [(0, 1), (1, 1), (2, 1), (3, 1), (4, 1), (5, 1), (6, 1), (7, 1), (8, 2), (10, 2), (12, 2)]) (zv := .agg #[.int .u32 0, .int .u32 0, .int .u32 0, .int .u32 0, .int .u32 0, .int .u64 0, .int .u64 0, .int .u64 0, .int .u32 0, .int .u32 0, .int .u32 0, .int .u32 0, .int .u32 0, .int .u32 0]) (cs := #[.int .u32 0, .int .u32 0, .int .u32 0, .int .u32 0, .int .u32 0, .int .u64 0, .int .u64 0, .int .u64 0, .int .u32 0, .int .u32 0, .int .u32 0, .int .u32 0, .int .u32 0, .int .u32 0]) rfl (by kernel_rfl) (by kernel_rfl) (by kernel_rfl)) ?_
  refine Rg.st 38 4 (.tmp 14) 0 #[.int .u32 0, .int .u32 0, .int .u32 0, .int .u32 0, .int .u32 0, .int .u64 0, .int .u64 0, .int .u64 0, .int .u32 0, .int .u32 0, .int .u32 0, .int .u32 0, .int .u32 0, .int .u32 0] rfl rfl rfl ?_
  refine Rg.ac 5 (.bool false) ?_
  refine Rg.nx (fun _ _ h => h) [5,4,2,1] rfl ?_
  refine Ev.rt ?_
  refine At.via (Q := Q) hQ ?_
  refine At.retCell2 rfl rfl (reads_cellA 0 rfl rfl (by kernel_rfl) (by kernel_rfl)) (reads_tmp rfl) ?_
  exact fun w hw => ⟨(by unfold attrsS; rw [(show thereS ns n = false by simpa using h1)]; rfl), hw.base_below 2 rfl⟩
 ·
  have h3 := not_f h1
  have ⟨h4, h5, h6⟩ := thereS_t h3
  refine Ev.sk ?_
  refine At.nx (fun _ _ h => h) [5,4,2,1] rfl ?_
  refine Ev.sr 7 ?_
  refine Rg.fa 15 25 2 0 0 rfl ?_
  refine Rg.ld 16 22 15 1 rfl rfl rfl ?_
  refine Rg.mv 17 1 rfl ?_
  have ⟨q3, o4, hp5⟩ := hT.rows.adr (by omega)
  refine Rg.p 18 (.indexAddr 22 (.tmp 16) (.tmp 17)) (v := .pointer (some ⟨q3, o4 + (n).toNat * 25, none⟩)) (pv_indexAddr' rfl hp5 rfl (e := 44) (sz := 25) (by kernel_rfl) (by omega) (by omega)) ?_
  refine Rg.p 19 (.load 44 (.tmp 18)) (v := .agg ((nd ns ((n).toNat)).cells (lc al ((n).toNat)))) (pv_load_node (i := (n).toNat) (ns := ns) rfl hp5 (by omega) (by kernel_rfl) (by kernel_rfl) (fun w hw => ((hT).keep (hw.at_ 2 rfl) (fun k hk => hw.lt 2 rfl hk)))) ?_
  refine Rg.al 6 44 (.agg #[.int .u32 0, .int .u32 0, .int .u32 0, .int .u32 0, .int .u32 0, .int .i64 0, .int .u32 0, .int .u32 0, .int .u32 0, .int .u32 0, .int .u32 0, .int .u32 0, .slice none 0 0, .int .u8 0, .int .u8 0, .int .u8 0, .int .u8 0, .int .u8 0, .int .u8 0, .int .u8 0, .int .u8 0, .string ⟨#[]⟩, .slice none 0 0, .int .i64 0, .int .u64 0]) fun b6 => ?_
  refine Rg.st 44 6 (.tmp 19) 0 ((nd ns ((n).toNat)).cells (lc al ((n).toNat))) rfl rfl rfl ?_
  refine Rg.nx (fun _ _ h => h) [6,5,4,1] rfl ?_
  refine Ev.sr 11 ?_
  refine rg_makeMap (d := 20) (t := 133) (g := none) (intKey .u32) (by kernel_rfl) (by kernel_rfl) ?_
  intro r7
  refine Rg.fa 21 44 6 9 12 rfl ?_
  refine Rg.ld 22 29 21 1 rfl rfl rfl ?_
  refine Rg.p 23 (.call { callee := .builtin .len, args := #[.tmp 22], argTypes := #[29] }) (pv_len_slice rfl (by kernel_rfl)) ?_
  refine rg_insert (t := 133) (x := .tmp 20) (y := .const (.int .u32 1)) (z := .tmp 23) (kt := 33) (et := 3) (g := none) (intKey .u32) 0 (by kernel_rfl) (by kernel_rfl) rfl rfl rfl (by kernel_rfl) (by kernel_rfl) rfl ?_
  refine Rg.fa 24 44 6 11 21 rfl ?_
  refine Rg.ld 25 9 24 1 rfl rfl rfl ?_
  refine Rg.p 26 (.call { callee := .builtin .len, args := #[.tmp 25], argTypes := #[9] }) (pv_len_string rfl (by kernel_rfl)) ?_
  refine rg_insert (t := 133) (x := .tmp 20) (y := .const (.int .u32 5)) (z := .tmp 26) (kt := 33) (et := 3) (g := none) (intKey .u32) 0 (by kernel_rfl) (by kernel_rfl) rfl rfl rfl (by kernel_rfl) (by kernel_rfl) rfl ?_
  refine Rg.mv 27 20 rfl ?_
  refine Rg.as 7 27 rfl ?_
  refine Rg.nx (fun _ _ h => h) [7,6,5,4,1] rfl ?_
  refine Ev.sr 9 ?_
  refine Rg.mv 29 7 rfl ?_
  refine Rg.fa 30 44 6 0 0 rfl ?_
  refine Rg.ld 31 33 30 1 rfl rfl rfl ?_
  refine Rg.p 32 (.lookup 133 (.tmp 29) (.tmp 31) true) (v := .tuple #[.int .i64 ((look (upd (upd [] 1 ((nd ns ((n).toNat)).data.length : Int)) 5 (((nd ns ((n).toNat)).target).size : Int) : List (Int × Int)) ((nd ns ((n).toNat)).kind)).getD 0), .bool ((look (upd (upd [] 1 ((nd ns ((n).toNat)).data.length : Int)) 5 (((nd ns ((n).toNat)).target).size : Int) : List (Int × Int)) ((nd ns ((n).toNat)).kind)).isSome)]) (pv_lookup_ok (kt := 33) (et := 3) (intKey .u32) 0 rfl rfl (by kernel_rfl) (by kernel_rfl) (by kernel_rfl) rfl) ?_
  refine Rg.mv 28 32 rfl ?_
  refine Rg.ex 33 28 0 rfl rfl ?_
  refine Rg.ex 34 28 1 rfl rfl ?_
  refine Rg.as 8 33 rfl ?_
  refine Rg.as 9 34 rfl ?_
  refine Rg.nx (fun _ _ h => h) [9,8,6,5,4,1] rfl ?_
  refine Ev.sq ?_
  refine Ev.sr 2 ?_
  refine Rg.mv 35 9 rfl ?_
  refine Rg.p 36 (.unOp .not 4 (.tmp 35)) (pv_not (b := (look (upd (upd [] 1 ((nd ns ((n).toNat)).data.length : Int)) 5 (((nd ns ((n).toNat)).target).size : Int) : List (Int × Int)) ((nd ns ((n).toNat)).kind)).isSome) rfl) ?_
  refine Rg.nx (fun _ _ h => h) [36,8,6,5,4,1] rfl ?_
  refine Ev.cd 36 rfl (fun h7 => ?_) (fun h7 => ?_)
  ·
   have h8 := not_t h7
   refine Ev.rg 5 ?_
   refine Rg.fa 37 44 6 12 22 rfl ?_
   refine Rg.ld 38 42 37 1 rfl rfl rfl ?_
   refine Rg.p 39 (.call { callee := .builtin .len, args := #[.tmp 38], argTypes := #[42] }) (pv_len_slice rfl (by kernel_rfl)) ?_
   refine Rg.p 40 (.binOp .mul 3 (.const (.int .i64 32)) (.tmp 39) 3) (pv_mulb rfl rfl (in_i64 (by omega) (by omega))) ?_
   refine Rg.as 8 40 rfl ?_
   refine Rg.nx (fun _ _ h => h) [8,6,5,4,1] rfl ?_
   refine Ev.sr 26 ?_
   refine Rg.fa 41 44 6 0 0 rfl ?_
   refine Rg.ld 42 33 41 1 rfl rfl rfl ?_
   refine Rg.fa 43 44 6 2 2 rfl ?_
   refine Rg.ld 44 23 43 1 rfl rfl rfl ?_
   refine Rg.fa 45 44 6 5 5 rfl ?_
   refine Rg.ld 46 3 45 1 rfl rfl rfl ?_
   refine Rg.p 47 (.convert 3 23 (.tmp 46)) (pv_convert (q' := .u32) rfl (by kernel_rfl) (by kernel_rfl)) ?_
   refine Rg.fa 48 44 6 3 3 rfl ?_
   refine Rg.ld 49 23 48 1 rfl rfl rfl ?_
   refine Rg.fa 50 44 6 4 4 rfl ?_
   refine Rg.ld 51 23 50 1 rfl rfl rfl ?_
   refine Rg.mv 52 8 rfl ?_
   refine Rg.p 53 (.convert 3 34 (.tmp 52)) (pv_convert (q' := .u64) rfl (by kernel_rfl) (by kernel_rfl)) ?_
   refine Rg.mv 54 8 rfl ?_
   refine Rg.p 55 (.convert 3 34 (.tmp 54)) (pv_convert (q' := .u64) rfl (by kernel_rfl) (by kernel_rfl)) ?_
   refine Rg.mv 56 1 rfl ?_
   refine Rg.p 57 (.convert 3 34 (.tmp 56)) (pv_convert (q' := .u64) rfl (by kernel_rfl) (by kernel_rfl)) ?_
   refine Rg.fa 58 44 6 6 6 rfl ?_
   refine Rg.p 59 (.load 36 (.tmp 58)) (v := .agg #[.int .u32 ((nd ns ((n).toNat)).rs), .int .u32 ((nd ns ((n).toNat)).rn)]) (pv_load_blk_agg 1 rfl rfl (vs := #[.int .u32 ((nd ns ((n).toNat)).rs), .int .u32 ((nd ns ((n).toNat)).rn)]) (by kernel_rfl) (by kernel_rfl) (agg_rfl (by kernel_rfl))) ?_
   refine Rg.fa 60 44 6 7 8 rfl ?_
   refine Rg.p 61 (.load 36 (.tmp 60)) (v := .agg #[.int .u32 ((nd ns ((n).toNat)).ws), .int .u32 ((nd ns ((n).toNat)).wn)]) (pv_load_blk_agg 1 rfl rfl (vs := #[.int .u32 ((nd ns ((n).toNat)).ws), .int .u32 ((nd ns ((n).toNat)).wn)]) (by kernel_rfl) (by kernel_rfl) (agg_rfl (by kernel_rfl))) ?_
   refine Rg.fa 62 44 6 8 10 rfl ?_
   refine Rg.p 63 (.load 36 (.tmp 62)) (v := .agg #[.int .u32 ((nd ns ((n).toNat)).ts), .int .u32 ((nd ns ((n).toNat)).tn)]) (pv_load_blk_agg 1 rfl rfl (vs := #[.int .u32 ((nd ns ((n).toNat)).ts), .int .u32 ((nd ns ((n).toNat)).tn)]) (by kernel_rfl) (by kernel_rfl) (agg_rfl (by kernel_rfl))) ?_
   refine Rg.p 64 (.build 38 #[(0, .tmp 42), (1, .tmp 44), (2, .tmp 47), (3, .tmp 49), (4, .tmp 51), (5, .tmp 53), (6, .tmp 55), (7, .tmp 57), (8, .tmp 59), (9, .tmp 61), (10, .tmp 63)]) (v := .agg #[.int .u32 ((nd ns ((n).toNat)).kind), .int .u32 ((nd ns ((n).toNat)).mode), .int .u32 (IntKind.u32.wrap ((nd ns ((n).toNat)).links)), .int .u32 ((nd ns ((n).toNat)).user), .int .u32 ((nd ns ((n).toNat)).group), .int .u64 (IntKind.u64.wrap (32 * ((nd ns ((n).toNat)).list.length : Int))), .int .u64 (IntKind.u64.wrap (32 * ((nd ns ((n).toNat)).list.length : Int))), .int .u64 (IntKind.u64.wrap n), .int .u32 ((nd ns ((n).toNat)).rs), .int .u32 ((nd ns ((n).toNat)).rn), .int .u32 ((nd ns ((n).toNat)).ws), .int .u32 ((nd ns ((n).toNat)).wn), .int .u32 ((nd ns ((n).toNat)).ts), .int .u32 ((nd ns ((n).toNat)).tn)]) (pv_build (parts := [(0, .tmp 42), (1, .tmp 44), (2, .tmp 47), (3, .tmp 49), (4, .tmp 51), (5, .tmp 53), (6, .tmp 55), (7, .tmp 57), (8, .tmp 59), (9, .tmp 61), (10, .tmp 63)]) (vs := [.int .u32 ((nd ns ((n).toNat)).kind), .int .u32 ((nd ns ((n).toNat)).mode), .int .u32 (IntKind.u32.wrap ((nd ns ((n).toNat)).links)), .int .u32 ((nd ns ((n).toNat)).user), .int .u32 ((nd ns ((n).toNat)).group), .int .u64 (IntKind.u64.wrap (32 * ((nd ns ((n).toNat)).list.length : Int))), .int .u64 (IntKind.u64.wrap (32 * ((nd ns ((n).toNat)).list.length : Int))), .int .u64 (IntKind.u64.wrap n), .agg #[.int .u32 ((nd ns ((n).toNat)).rs), .int .u32 ((nd ns ((n).toNat)).rn)], .agg #[.int .u32 ((nd ns ((n).toNat)).ws), .int .u32 ((nd ns ((n).toNat)).wn)], .agg #[.int .u32 ((nd ns ((n).toNat)).ts), .int .u32 ((nd ns ((n).toNat)).tn)]]) (fs := [(0, 1), (1, 1), (2, 1), (3, 1), (4, 1), (5, 1), (6, 1), (7, 1), (8, 2), (10, 2), (12, 2)]) (zv := .agg #[.int .u32 0, .int .u32 0, .int .u32 0, .int .u32 0, .int .u32 0, .int .u64 0, .int .u64 0, .int .u64 0, .int .u32 0, .int .u32 0, .int .u32 0, .int .u32 0, .int .u32 0, .int .u32 0]) (cs := #[.int .u32 ((nd ns ((n).toNat)).kind), .int .u32 ((nd ns ((n).toNat)).mode), .int .u32 (IntKind.u32.wrap ((nd ns ((n).toNat)).links)), .int .u32 ((nd ns ((n).toNat)).user), .int .u32 ((nd ns ((n).toNat)).group), .int .u64 (IntKind.u64.wrap (32 * ((nd ns ((n).toNat)).list.length : Int))), .int .u64 (IntKind.u64.wrap (32 * ((nd ns ((n).toNat)).list.length : Int))), .int .u64 (IntKind.u64.wrap n), .int .u32 ((nd ns ((n).toNat)).rs), .int .u32 ((nd ns ((n).toNat)).rn), .int .u32 ((nd ns ((n).toNat)).ws), .int .u32 ((nd ns ((n).toNat)).wn), .int .u32 ((nd ns ((n).toNat)).ts), .int .u32 ((nd ns ((n).toNat)).tn)]) rfl (by kernel_rfl) (by kernel_rfl) (by kernel_rfl)) ?_
   refine Rg.st 38 4 (.tmp 64) 2 #[.int .u32 ((nd ns ((n).toNat)).kind), .int .u32 ((nd ns ((n).toNat)).mode), .int .u32 (IntKind.u32.wrap ((nd ns ((n).toNat)).links)), .int .u32 ((nd ns ((n).toNat)).user), .int .u32 ((nd ns ((n).toNat)).group), .int .u64 (IntKind.u64.wrap (32 * ((nd ns ((n).toNat)).list.length : Int))), .int .u64 (IntKind.u64.wrap (32 * ((nd ns ((n).toNat)).list.length : Int))), .int .u64 (IntKind.u64.wrap n), .int .u32 ((nd ns ((n).toNat)).rs), .int .u32 ((nd ns ((n).toNat)).rn), .int .u32 ((nd ns ((n).toNat)).ws), .int .u32 ((nd ns ((n).toNat)).wn), .int .u32 ((nd ns ((n).toNat)).ts), .int .u32 ((nd ns ((n).toNat)).tn)] rfl rfl rfl ?_
   refine Rg.ac 5 (.bool true) ?_
   refine Rg.nx (fun _ _ h => h) [5,4] rfl ?_
   refine Ev.rt ?_
   refine At.via (Q := Q) hQ ?_
   refine At.retCell2 rfl rfl (reads_cellA 2 rfl rfl (by kernel_rfl) (by kernel_rfl)) (reads_tmp rfl) ?_
   exact fun w hw => ⟨(by unfold attrsS attrsC sizeS; rw [(show thereS ns n = true by simpa using h1)]; (have e2_ := h7); unfold sizeL; rw [e2_]; rfl), hw.base_below 4 rfl⟩
  ·
   have h9 := not_f h7
   refine Ev.sk ?_
   refine At.nx (fun _ _ h => h) [8,6,5,4,1] rfl ?_
   refine Ev.sr 26 ?_
   refine Rg.fa 41 44 6 0 0 rfl ?_
   refine Rg.ld 42 33 41 1 rfl rfl rfl ?_
   refine Rg.fa 43 44 6 2 2 rfl ?_
   refine Rg.ld 44 23 43 1 rfl rfl rfl ?_
   refine Rg.fa 45 44 6 5 5 rfl ?_
   refine Rg.ld 46 3 45 1 rfl rfl rfl ?_
   refine Rg.p 47 (.convert 3 23 (.tmp 46)) (pv_convert (q' := .u32) rfl (by kernel_rfl) (by kernel_rfl)) ?_
   refine Rg.fa 48 44 6 3 3 rfl ?_
   refine Rg.ld 49 23 48 1 rfl rfl rfl ?_
   refine Rg.fa 50 44 6 4 4 rfl ?_
   refine Rg.ld 51 23 50 1 rfl rfl rfl ?_
   refine Rg.mv 52 8 rfl ?_
   refine Rg.p 53 (.convert 3 34 (.tmp 52)) (pv_convert (q' := .u64) rfl (by kernel_rfl) (by kernel_rfl)) ?_
   refine Rg.mv 54 8 rfl ?_
   refine Rg.p 55 (.convert 3 34 (.tmp 54)) (pv_convert (q' := .u64) rfl (by kernel_rfl) (by kernel_rfl)) ?_
   refine Rg.mv 56 1 rfl ?_
   refine Rg.p 57 (.convert 3 34 (.tmp 56)) (pv_convert (q' := .u64) rfl (by kernel_rfl) (by kernel_rfl)) ?_
   refine Rg.fa 58 44 6 6 6 rfl ?_
   refine Rg.p 59 (.load 36 (.tmp 58)) (v := .agg #[.int .u32 ((nd ns ((n).toNat)).rs), .int .u32 ((nd ns ((n).toNat)).rn)]) (pv_load_blk_agg 1 rfl rfl (vs := #[.int .u32 ((nd ns ((n).toNat)).rs), .int .u32 ((nd ns ((n).toNat)).rn)]) (by kernel_rfl) (by kernel_rfl) (agg_rfl (by kernel_rfl))) ?_
   refine Rg.fa 60 44 6 7 8 rfl ?_
   refine Rg.p 61 (.load 36 (.tmp 60)) (v := .agg #[.int .u32 ((nd ns ((n).toNat)).ws), .int .u32 ((nd ns ((n).toNat)).wn)]) (pv_load_blk_agg 1 rfl rfl (vs := #[.int .u32 ((nd ns ((n).toNat)).ws), .int .u32 ((nd ns ((n).toNat)).wn)]) (by kernel_rfl) (by kernel_rfl) (agg_rfl (by kernel_rfl))) ?_
   refine Rg.fa 62 44 6 8 10 rfl ?_
   refine Rg.p 63 (.load 36 (.tmp 62)) (v := .agg #[.int .u32 ((nd ns ((n).toNat)).ts), .int .u32 ((nd ns ((n).toNat)).tn)]) (pv_load_blk_agg 1 rfl rfl (vs := #[.int .u32 ((nd ns ((n).toNat)).ts), .int .u32 ((nd ns ((n).toNat)).tn)]) (by kernel_rfl) (by kernel_rfl) (agg_rfl (by kernel_rfl))) ?_
   refine Rg.p 64 (.build 38 #[(0, .tmp 42), (1, .tmp 44), (2, .tmp 47), (3, .tmp 49), (4, .tmp 51), (5, .tmp 53), (6, .tmp 55), (7, .tmp 57), (8, .tmp 59), (9, .tmp 61), (10, .tmp 63)]) (v := .agg #[.int .u32 ((nd ns ((n).toNat)).kind), .int .u32 ((nd ns ((n).toNat)).mode), .int .u32 (IntKind.u32.wrap ((nd ns ((n).toNat)).links)), .int .u32 ((nd ns ((n).toNat)).user), .int .u32 ((nd ns ((n).toNat)).group), .int .u64 (IntKind.u64.wrap ((look (upd (upd [] 1 ((nd ns ((n).toNat)).data.length : Int)) 5 (((nd ns ((n).toNat)).target).size : Int) : List (Int × Int)) ((nd ns ((n).toNat)).kind)).getD 0)), .int .u64 (IntKind.u64.wrap ((look (upd (upd [] 1 ((nd ns ((n).toNat)).data.length : Int)) 5 (((nd ns ((n).toNat)).target).size : Int) : List (Int × Int)) ((nd ns ((n).toNat)).kind)).getD 0)), .int .u64 (IntKind.u64.wrap n), .int .u32 ((nd ns ((n).toNat)).rs), .int .u32 ((nd ns ((n).toNat)).rn), .int .u32 ((nd ns ((n).toNat)).ws), .int .u32 ((nd ns ((n).toNat)).wn), .int .u32 ((nd ns ((n).toNat)).ts), .int .u32 ((nd ns ((n).toNat)).tn)]) (pv_build (parts := [(0, .tmp 42), (1, .tmp 44), (2, .tmp 47), (3, .tmp 49), (4, .tmp 51), (5, .tmp 53), (6, .tmp 55), (7, .tmp 57), (8, .tmp 59), (9, .tmp 61), (10, .tmp 63)]) (vs := [.int .u32 ((nd ns ((n).toNat)).kind), .int .u32 ((nd ns ((n).toNat)).mode), .int .u32 (IntKind.u32.wrap ((nd ns ((n).toNat)).links)), .int .u32 ((nd ns ((n).toNat)).user), .int .u32 ((nd ns ((n).toNat)).group), .int .u64 (IntKind.u64.wrap ((look (upd (upd [] 1 ((nd ns ((n).toNat)).data.length : Int)) 5 (((nd ns ((n).toNat)).target).size : Int) : List (Int × Int)) ((nd ns ((n).toNat)).kind)).getD 0)), .int .u64 (IntKind.u64.wrap ((look (upd (upd [] 1 ((nd ns ((n).toNat)).data.length : Int)) 5 (((nd ns ((n).toNat)).target).size : Int) : List (Int × Int)) ((nd ns ((n).toNat)).kind)).getD 0)), .int .u64 (IntKind.u64.wrap n), .agg #[.int .u32 ((nd ns ((n).toNat)).rs), .int .u32 ((nd ns ((n).toNat)).rn)], .agg #[.int .u32 ((nd ns ((n).toNat)).ws), .int .u32 ((nd ns ((n).toNat)).wn)], .agg #[.int .u32 ((nd ns ((n).toNat)).ts), .int .u32 ((nd ns ((n).toNat)).tn)]]) (fs := [(0, 1), (1, 1), (2, 1), (3, 1), (4, 1), (5, 1), (6, 1), (7, 1), (8, 2), (10, 2), (12, 2)]) (zv := .agg #[.int .u32 0, .int .u32 0, .int .u32 0, .int .u32 0, .int .u32 0, .int .u64 0, .int .u64 0, .int .u64 0, .int .u32 0, .int .u32 0, .int .u32 0, .int .u32 0, .int .u32 0, .int .u32 0]) (cs := #[.int .u32 ((nd ns ((n).toNat)).kind), .int .u32 ((nd ns ((n).toNat)).mode), .int .u32 (IntKind.u32.wrap ((nd ns ((n).toNat)).links)), .int .u32 ((nd ns ((n).toNat)).user), .int .u32 ((nd ns ((n).toNat)).group), .int .u64 (IntKind.u64.wrap ((look (upd (upd [] 1 ((nd ns ((n).toNat)).data.length : Int)) 5 (((nd ns ((n).toNat)).target).size : Int) : List (Int × Int)) ((nd ns ((n).toNat)).kind)).getD 0)), .int .u64 (IntKind.u64.wrap ((look (upd (upd [] 1 ((nd ns ((n).toNat)).data.length : Int)) 5 (((nd ns ((n).toNat)).target).size : Int) : List (Int × Int)) ((nd ns ((n).toNat)).kind)).getD 0)), .int .u64 (IntKind.u64.wrap n), .int .u32 ((nd ns ((n).toNat)).rs), .int .u32 ((nd ns ((n).toNat)).rn), .int .u32 ((nd ns ((n).toNat)).ws), .int .u32 ((nd ns ((n).toNat)).wn), .int .u32 ((nd ns ((n).toNat)).ts), .int .u32 ((nd ns ((n).toNat)).tn)]) rfl (by kernel_rfl) (by kernel_rfl) (by kernel_rfl)) ?_
   refine Rg.st 38 4 (.tmp 64) 2 #[.int .u32 ((nd ns ((n).toNat)).kind), .int .u32 ((nd ns ((n).toNat)).mode), .int .u32 (IntKind.u32.wrap ((nd ns ((n).toNat)).links)), .int .u32 ((nd ns ((n).toNat)).user), .int .u32 ((nd ns ((n).toNat)).group), .int .u64 (IntKind.u64.wrap ((look (upd (upd [] 1 ((nd ns ((n).toNat)).data.length : Int)) 5 (((nd ns ((n).toNat)).target).size : Int) : List (Int × Int)) ((nd ns ((n).toNat)).kind)).getD 0)), .int .u64 (IntKind.u64.wrap ((look (upd (upd [] 1 ((nd ns ((n).toNat)).data.length : Int)) 5 (((nd ns ((n).toNat)).target).size : Int) : List (Int × Int)) ((nd ns ((n).toNat)).kind)).getD 0)), .int .u64 (IntKind.u64.wrap n), .int .u32 ((nd ns ((n).toNat)).rs), .int .u32 ((nd ns ((n).toNat)).rn), .int .u32 ((nd ns ((n).toNat)).ws), .int .u32 ((nd ns ((n).toNat)).wn), .int .u32 ((nd ns ((n).toNat)).ts), .int .u32 ((nd ns ((n).toNat)).tn)] rfl rfl rfl ?_
   refine Rg.ac 5 (.bool true) ?_
   refine Rg.nx (fun _ _ h => h) [5,4] rfl ?_
   refine Ev.rt ?_
   refine At.via (Q := Q) hQ ?_
   refine At.retCell2 rfl rfl (reads_cellA 2 rfl rfl (by kernel_rfl) (by kernel_rfl)) (reads_tmp rfl) ?_
   exact fun w hw => ⟨(by unfold attrsS attrsC sizeS; rw [(show thereS ns n = true by simpa using h1)]; (have e2_ := h7); unfold sizeL; rw [e2_]; rfl), hw.base_below 4 rfl⟩

def attrKind (ns : List Node) (n : Int) : Int := cond (!thereS ns n) 0 (nd ns n.toNat).kind
def attrMode (ns : List Node) (n : Int) : Int := cond (!thereS ns n) 0 (nd ns n.toNat).mode
def attrLinks (ns : List Node) (n : Int) : Int := cond (!thereS ns n) 0 (IntKind.u32.wrap (nd ns n.toNat).links)
def attrUser (ns : List Node) (n : Int) : Int := cond (!thereS ns n) 0 (nd ns n.toNat).user
def attrGroup (ns : List Node) (n : Int) : Int := cond (!thereS ns n) 0 (nd ns n.toNat).group
def attrSize (ns : List Node) (n : Int) : Int := cond (!thereS ns n) 0 (IntKind.u64.wrap (sizeS (nd ns n.toNat)))
def attrUsed (ns : List Node) (n : Int) : Int := cond (!thereS ns n) 0 (IntKind.u64.wrap (sizeS (nd ns n.toNat)))
def attrID (ns : List Node) (n : Int) : Int := cond (!thereS ns n) 0 (IntKind.u64.wrap n)
def attrRs (ns : List Node) (n : Int) : Int := cond (!thereS ns n) 0 (nd ns n.toNat).rs
def attrRn (ns : List Node) (n : Int) : Int := cond (!thereS ns n) 0 (nd ns n.toNat).rn
def attrWs (ns : List Node) (n : Int) : Int := cond (!thereS ns n) 0 (nd ns n.toNat).ws
def attrWn (ns : List Node) (n : Int) : Int := cond (!thereS ns n) 0 (nd ns n.toNat).wn
def attrTs (ns : List Node) (n : Int) : Int := cond (!thereS ns n) 0 (nd ns n.toNat).ts
def attrTn (ns : List Node) (n : Int) : Int := cond (!thereS ns n) 0 (nd ns n.toNat).tn
theorem attrs_0 (ns : List Node) (n : Int) : (attrsS ns n)[0]? = some (.int .u32 (attrKind ns n)) := by unfold attrsS attrKind; cases thereS ns n <;> rfl
theorem attrs_1 (ns : List Node) (n : Int) : (attrsS ns n)[1]? = some (.int .u32 (attrMode ns n)) := by unfold attrsS attrMode; cases thereS ns n <;> rfl
theorem attrs_2 (ns : List Node) (n : Int) : (attrsS ns n)[2]? = some (.int .u32 (attrLinks ns n)) := by unfold attrsS attrLinks; cases thereS ns n <;> rfl
theorem attrs_3 (ns : List Node) (n : Int) : (attrsS ns n)[3]? = some (.int .u32 (attrUser ns n)) := by unfold attrsS attrUser; cases thereS ns n <;> rfl
theorem attrs_4 (ns : List Node) (n : Int) : (attrsS ns n)[4]? = some (.int .u32 (attrGroup ns n)) := by unfold attrsS attrGroup; cases thereS ns n <;> rfl
theorem attrs_5 (ns : List Node) (n : Int) : (attrsS ns n)[5]? = some (.int .u64 (attrSize ns n)) := by unfold attrsS attrSize; cases thereS ns n <;> rfl
theorem attrs_6 (ns : List Node) (n : Int) : (attrsS ns n)[6]? = some (.int .u64 (attrUsed ns n)) := by unfold attrsS attrUsed; cases thereS ns n <;> rfl
theorem attrs_7 (ns : List Node) (n : Int) : (attrsS ns n)[7]? = some (.int .u64 (attrID ns n)) := by unfold attrsS attrID; cases thereS ns n <;> rfl
theorem attrs_8 (ns : List Node) (n : Int) : (attrsS ns n)[8]? = some (.int .u32 (attrRs ns n)) := by unfold attrsS attrRs; cases thereS ns n <;> rfl
theorem attrs_9 (ns : List Node) (n : Int) : (attrsS ns n)[9]? = some (.int .u32 (attrRn ns n)) := by unfold attrsS attrRn; cases thereS ns n <;> rfl
theorem attrs_10 (ns : List Node) (n : Int) : (attrsS ns n)[10]? = some (.int .u32 (attrWs ns n)) := by unfold attrsS attrWs; cases thereS ns n <;> rfl
theorem attrs_11 (ns : List Node) (n : Int) : (attrsS ns n)[11]? = some (.int .u32 (attrWn ns n)) := by unfold attrsS attrWn; cases thereS ns n <;> rfl
theorem attrs_12 (ns : List Node) (n : Int) : (attrsS ns n)[12]? = some (.int .u32 (attrTs ns n)) := by unfold attrsS attrTs; cases thereS ns n <;> rfl
theorem attrs_13 (ns : List Node) (n : Int) : (attrsS ns n)[13]? = some (.int .u32 (attrTn ns n)) := by unfold attrsS attrTn; cases thereS ns n <;> rfl
theorem attrs_size (ns : List Node) (n : Int) : (attrsS ns n).size = 14 := by unfold attrsS; cases thereS ns n <;> rfl
theorem attrs_one (ns : List Node) (n : Int) : ((attrsS ns n).toList.all (·.oneCell')) = true := by unfold attrsS; cases thereS ns n <;> rfl
theorem attrs_put (ns : List Node) (n : Int) (cs : Array Value) (h : cs.size = 14) : putCells cs 0 (attrsS ns n).toList = attrsS ns n := by
  apply Array.ext_getElem?
  intro j
  rw [putCells_get]
  simp only [Array.length_toList, attrs_size, Nat.zero_le, true_and, h, Nat.zero_add, and_self, Nat.sub_zero]
  by_cases hj : j < 14
  · rw [if_pos hj]; simp
  · rw [if_neg hj, Array.getElem?_eq_none (by omega), Array.getElem?_eq_none (by rw [attrs_size]; omega)]

end Go.Proofs.Ytfhhggcdmgjbcaa.Sx

namespace Go.Proofs.Ytfhhggcdmgjbcaa.Sx
open Go Go.RowKit Go.Proofs

def livTo (ns : List Node) : Nat → List Nat
  | 0 => []
  | k + 1 => cond (!decide ((nd ns k).kind = 0)) (livTo ns k ++ [k]) (livTo ns k)
def liv (ns : List Node) : List Nat := livTo ns ns.length
def livRow (ns : List Node) (al : List Loc) (i : Nat) : List Value := [.int .i64 (i : Int), .agg ((nd ns i).cells (lc al i))]
def livRows (ns : List Node) (al : List Loc) : List (List Value) := (liv ns).map (livRow ns al)
theorem livTo_pre (ns : List Node) (k d : Nat) : ∃ r, livTo ns (k + d) = livTo ns k ++ r := by
  induction d with
  | zero => exact ⟨[], by simp⟩
  | succ d ih =>
    obtain ⟨r, hr⟩ := ih
    show ∃ r, cond (!decide ((nd ns (k + d)).kind = 0)) (livTo ns (k + d) ++ [k + d]) (livTo ns (k + d)) = _
    cases (!decide ((nd ns (k + d)).kind = 0)) with
    | true => exact ⟨r ++ [k + d], by simp [hr]⟩
    | false => exact ⟨r, by simp [hr]⟩
theorem livTo_y {ns : List Node} {k : Nat} (h : (!decide ((nd ns k).kind = 0)) = true) : livTo ns (k + 1) = livTo ns k ++ [k] := by simp only [livTo, h, cond_true]
theorem livTo_n {ns : List Node} {k : Nat} (h : (!decide ((nd ns k).kind = 0)) = false) : livTo ns (k + 1) = livTo ns k := by simp only [livTo, h, cond_false]
theorem liv_at {ns : List Node} {k : Nat} (hk : k < ns.length) (h : (!decide ((nd ns k).kind = 0)) = true) : (livTo ns k).length < (liv ns).length ∧ (liv ns).getD (livTo ns k).length 0 = k := by
  obtain ⟨r, hr⟩ := livTo_pre ns (k + 1) (ns.length - (k + 1))
  rw [show k + 1 + (ns.length - (k + 1)) = ns.length by omega, livTo_y h] at hr
  unfold liv
  rw [hr]
  constructor
  · simp
  · simp [List.getD_eq_getElem?_getD]
theorem liv_le (ns : List Node) {k : Nat} (hk : k ≤ ns.length) : (livTo ns k).length ≤ (liv ns).length := by
  obtain ⟨r, hr⟩ := livTo_pre ns k (ns.length - k)
  rw [show k + (ns.length - k) = ns.length by omega] at hr
  unfold liv; rw [hr]; simp
theorem livRows_length (ns : List Node) (al : List Loc) : (livRows ns al).length = (liv ns).length := by simp [livRows]
theorem livRows_get {ns : List Node} {al : List Loc} {n : Nat} (h : n < (liv ns).length) : (livRows ns al).getD n [] = livRow ns al ((liv ns).getD n 0) := by
  simp [livRows, List.getD_eq_getElem?_getD, List.getElem?_map, List.getElem?_eq_getElem h]
theorem liv_mem {ns : List Node} {i : Nat} : ∀ {k : Nat}, i ∈ livTo ns k ↔ i < k ∧ (nd ns i).kind ≠ 0 := by
  intro k
  induction k with
  | zero => simp [livTo]
  | succ k ih =>
    cases h : (!decide ((nd ns k).kind = 0)) with
    | true =>
      rw [livTo_y h, List.mem_append, ih, List.mem_singleton]
      have hk : (nd ns k).kind ≠ 0 := by simpa using h
      constructor
      · rintro (⟨h1, h2⟩ | rfl)
        · exact ⟨by omega, h2⟩
        · exact ⟨by omega, hk⟩
      · rintro ⟨h1, h2⟩
        rcases Nat.lt_succ_iff_lt_or_eq.1 h1 with h3 | h3
        · exact .inl ⟨h3, h2⟩
        · exact .inr h3
    | false =>
      rw [livTo_n h, ih]
      have hk : (nd ns k).kind = 0 := by simpa using h
      constructor
      · rintro ⟨h1, h2⟩; exact ⟨by omega, h2⟩
      · rintro ⟨h1, h2⟩
        refine ⟨?_, h2⟩
        rcases Nat.lt_succ_iff_lt_or_eq.1 h1 with h3 | h3
        · exact h3
        · subst h3; exact absurd hk h2
theorem liv_get {ns : List Node} {n : Nat} (h : n < (liv ns).length) : (liv ns).getD n 0 < ns.length ∧ (nd ns ((liv ns).getD n 0)).kind ≠ 0 := by
  have : (liv ns).getD n 0 ∈ livTo ns ns.length := by
    rw [List.getD_eq_getElem?_getD, List.getElem?_eq_getElem h]; exact List.getElem_mem h
  exact liv_mem.1 this

set_option maxHeartbeats 8000000 in
theorem living_calls {p : Option Addr} {n cap : Nat} {gen : Int} {w : World} :
  Calls Try.prog 58 #[.agg #[.slice p n cap, .int .u32 gen]] w (RetN w (fun _ : Nat => True) (fun b => .func (.func 112) #[] #[.pointer (some ⟨b, 0, none⟩)]) (fun b => [blk b (.cells #[.slice p n cap, .int .u32 gen] 25 (0, 0))])) := by
 refine calls_ofQ (args := [_]) [base w (Low w)] Try.func58 (by kernel_rfl) (by kernel_rfl) (Heap.start w) ?_
 intro Q hQ
 refine Ev.sr 2 ?_
 refine Rg.bx 1 25 (.tmp 0) rfl fun b1 => ?_
 refine Rg.ac 2 (.nilFunc) ?_
 refine Rg.nx (fun _ _ h => h) [2,1] rfl ?_
 refine Ev.sr 2 ?_
 refine Rg.p 3 (.makeFunc (.func 112) #[] #[.tmp 1]) (v := .func (.func 112) #[] #[.pointer (some ⟨b1, 0, none⟩)]) (pv_makeFunc (xs := [.tmp 1]) rfl) ?_
 refine Rg.as 2 3 rfl ?_
 refine Rg.nx (fun _ _ h => h) [2] rfl ?_
 refine Ev.rt ?_
 refine At.via (Q := Q) hQ ?_
 refine At.ret1 rfl rfl rfl ?_
 exact fun w hw => ⟨b1, trivial, rfl, hw.pick [0, 1] (by decide)⟩

set_option maxHeartbeats 8000000 in
theorem living1_iter {b cap : Nat} {p : Option Addr} {ns : List Node} {al : List Loc} {gen : Int} {w0 : World} (hT : NodesAt (Low w0) w0 p ns al) (hlen : ns.length ≤ 16777216) :
  IterAt Try.prog 112 #[.pointer (some ⟨b, 0, none⟩)] (livRows ns al) w0 [blk b (.cells #[.slice p ns.length cap, .int .u32 gen] 25 (0, 0))] [base w0 (Low w0)] := by
 intro T J Jx l t0 w fr h hY
 refine calls_ofQ (args := [.func (.yield l) #[] #[], .pointer (some ⟨b, 0, none⟩)]) [blk b (.cells #[.slice p ns.length cap, .int .u32 gen] 25 (0, 0)), J 0 t0, fr, base w0 (Low w0)] Try.func112 (by kernel_rfl) (by kernel_rfl) h ?_
 intro Q hQ
 refine Ev.sr 4 ?_
 refine Rg.fa 5 25 1 0 0 rfl ?_
 refine Rg.ld 6 22 5 0 rfl rfl rfl ?_
 refine Rg.p 7 (.call { callee := .builtin .len, args := #[.tmp 6], argTypes := #[22] }) (pv_len_slice rfl (by kernel_rfl)) ?_
 refine Rg.mc 8 (.int .i64 0) ?_
 refine Rg.nx (fun _ _ h => h) [8,7,6,0] rfl ?_
 refine Ev.bk 0 ?_
 refine ev_loop (T := Nat × T) (fun x_ => (fun k t => [(0, .func (.yield l) #[] #[]), (6, .slice p ns.length cap), (7, .int .i64 (ns.length : Int)), (8, .int .i64 (k : Int))]) x_.1 x_.2) (fun x_ => (fun k t => [blk b (.cells #[.slice p ns.length cap, .int .u32 gen] 25 (0, 0)), J (livTo ns k).length t, fr, base w0 (Low w0)]) x_.1 x_.2) (fun x_ => (fun k t => k ≤ ns.length) x_.1 x_.2) (fun x_ => (fun k t => ns.length - k) x_.1 x_.2) (0, t0) [0, 1, 2, 3] (by kernel_rfl) (by show 0 ≤ ns.length; omega) (.cons (rfl) (.cons (rfl) (.cons (rfl) (.cons (rfl) (.nil _))))) rfl (by decide) ?_
 rintro ⟨k, t⟩ (hk : k ≤ ns.length)
 show Ev _ _ [(0, .func (.yield l) #[] #[]), (6, .slice p ns.length cap), (7, .int .i64 (ns.length : Int)), (8, .int .i64 (k : Int))] [blk b (.cells #[.slice p ns.length cap, .int .u32 gen] 25 (0, 0)), J (livTo ns k).length t, fr, base w0 (Low w0)] _
 refine Ev.sr 1 ?_
 refine Rg.p 9 (.binOp .lss 3 (.tmp 8) (.tmp 7) 3) (pv_lss rfl rfl) ?_
 refine Rg.nx (fun _ _ h => h) [9,8,7,6,0] rfl ?_
 refine Ev.sq ?_
 refine Ev.cd 9 rfl (fun h1 => ?_) (fun h1 => ?_)
 ·
  have h2 := of_decide_eq_true h1
  refine Ev.sk ?_
  refine At.nx (fun _ _ h => h) [9,8,7,6,0] rfl ?_
  refine Ev.sq ?_
  refine Ev.bk 1 ?_
  refine Ev.sr 6 ?_
  refine Rg.mv 10 8 rfl ?_
  have ⟨q1, o2, hp3⟩ := hT.rows.adr (by omega)
  refine Rg.p 11 (.indexAddr 22 (.tmp 6) (.tmp 8)) (v := .pointer (some ⟨q1, o2 + ((k : Int)).toNat * 25, none⟩)) (pv_indexAddr' rfl hp3 rfl (e := 44) (sz := 25) (by kernel_rfl) (by omega) (by omega)) ?_
  refine Rg.p 12 (.load 44 (.tmp 11)) (v := .agg ((nd ns k).cells (lc al k))) (pv_load_node (i := ((k : Int)).toNat) (ns := ns) rfl hp3 (by omega) (by kernel_rfl) (by kernel_rfl) (fun w hw => ((hT).keep (hw.at_ 3 rfl) (fun k hk => hw.lt 3 rfl hk)))) ?_
  refine Rg.al 4 44 (.agg #[.int .u32 0, .int .u32 0, .int .u32 0, .int .u32 0, .int .u32 0, .int .i64 0, .int .u32 0, .int .u32 0, .int .u32 0, .int .u32 0, .int .u32 0, .int .u32 0, .slice none 0 0, .int .u8 0, .int .u8 0, .int .u8 0, .int .u8 0, .int .u8 0, .int .u8 0, .int .u8 0, .int .u8 0, .string ⟨#[]⟩, .slice none 0 0, .int .i64 0, .int .u64 0]) fun b4 => ?_
  refine Rg.as 3 10 rfl ?_
  refine Rg.st 44 4 (.tmp 12) 0 ((nd ns k).cells (lc al k)) rfl rfl rfl ?_
  refine Rg.nx (fun _ _ h => h) [12,11,10,9,8,7,6,4,3,0] rfl ?_
  refine Ev.sr 10 ?_
  refine Rg.fa 13 44 4 0 0 rfl ?_
  refine Rg.ld 14 33 13 0 rfl rfl rfl ?_
  refine Rg.p 15 (.binOp .neq 33 (.tmp 14) (.const (.int .u32 0)) 33) (pv_neq rfl rfl) ?_
  refine Rg.mv 16 15 rfl ?_
  refine Rg.fork 16 (g := !(decide (((nd ns k).kind) = 0))) rfl (fun h3 => ?_) (fun h3 => ?_)
  ·
   have h4 := of_decide_eq_false (not_t h3)
   refine Rg.pg 3 true 17 (.move (.tmp 0)) (pv_move rfl) ?_
   refine Rg.pg 3 true 18 (.move (.tmp 3)) (pv_move rfl) ?_
   refine Rg.pg 3 true 19 (.load 44 (.tmp 4)) (v := .agg ((nd ns k).cells (lc al k))) (pv_load_blk_whole 0 rfl rfl (by kernel_rfl) (by kernel_rfl)) ?_
   refine rg_yield (T := T) (d := 20) (l := l) (fo := .tmp 17) (xs := #[.tmp 18, .tmp 19]) (ts := #[3, 44]) (g := some (3, true)) (S1 := fun t5 => [blk b4 (.cells ((nd ns k).cells (lc al k)) 44 (0, 0)), blk b (.cells #[.slice p ns.length cap, .int .u32 gen] 25 (0, 0)), J ((livTo ns k).length + 1) t5, fr, base w0 (Low w0)]) (S2 := fun t5 => [blk b4 (.cells ((nd ns k).cells (lc al k)) 44 (0, 0)), blk b (.cells #[.slice p ns.length cap, .int .u32 gen] 25 (0, 0)), Jx ((livTo ns k).length + 1) t5, fr, base w0 (Low w0)]) rfl (by kernel_rfl) (by kernel_rfl) rfl rfl (yield_own hY [blk b4 (.cells ((nd ns k).cells (lc al k)) 44 (0, 0)), blk b (.cells #[.slice p ns.length cap, .int .u32 gen] 25 (0, 0))] ((livTo ns k).length) t (by rw [livRows_length]; exact (liv_at (by omega) h3).1) (by rw [livRows_get (liv_at (by omega) h3).1, (liv_at (by omega) h3).2]; rfl)) (fun t5 => ?_) (fun t5 => ?_)
   ·
    refine Rg.pg 3 true 21 (.unOp .not 4 (.tmp 20)) (pv_not (b := true) rfl) ?_
    refine Rg.p 22 (.pick (.tmp 16) (.tmp 21) (.const (.bool false))) (pv_pick_t rfl rfl) ?_
    refine Rg.nx (fun _ _ h => h) [22,21,20,19,18,17,16,15,14,13,12,11,10,9,8,7,6,4,3,0] rfl ?_
    refine ev_cond_f (t := 22) (by kernel_rfl) rfl ?_
    refine Ev.sk ?_
    refine At.nx (fun _ _ h => h) [22,21,20,19,18,17,16,15,14,13,12,11,10,9,8,7,6,4,3,0] rfl ?_
    refine Ev.rg 2 ?_
    refine Rg.p 23 (.binOp .add 3 (.tmp 8) (.const (.int .i64 1)) 3) (pv_addb rfl rfl (in_i64 (by omega) (by omega))) ?_
    refine Rg.mv 8 23 rfl ?_
    refine Rg.fin rfl ?_
    refine At.round (t := (k, t)) (fun _ _ h => h) (k + 1, t5) [1, 2, 3, 4] (by show k + 1 ≤ ns.length; omega) (by show ns.length - (k + 1) < ns.length - k; omega) (.cons (rfl) (.cons (rfl) (.cons (rfl) (.cons (rfl) (.nil _))))) (by show _ = [blk b (.cells #[.slice p ns.length cap, .int .u32 gen] 25 (0, 0)), J (livTo ns (k + 1)).length t5, fr, base w0 (Low w0)]; rw [livTo_y h3, List.length_append]; rfl) (by decide)
   ·
    refine Rg.pg 3 true 21 (.unOp .not 4 (.tmp 20)) (pv_not (b := false) rfl) ?_
    refine Rg.p 22 (.pick (.tmp 16) (.tmp 21) (.const (.bool false))) (pv_pick_t rfl rfl) ?_
    refine Rg.nx (fun _ _ h => h) [22,21,20,19,18,17,16,15,14,13,12,11,10,9,8,7,6,4,3,0] rfl ?_
    refine ev_cond_t (t := 22) (by kernel_rfl) rfl ?_
    refine Ev.rt ?_
    refine At.via (Q := Q) hQ ?_
    refine At.ret0 ?_ ?_ ?_
    ·
     rfl
    ·
     rfl
    exact fun w hw => ⟨⟨_, rfl⟩, .inr ⟨_, _, (by rw [livRows_length]; have := (liv_at (by omega) h3).1; omega), hw.pick [2, 3, 4] (by decide)⟩⟩
  ·
   have h5 := of_decide_eq_true (not_f h3)
   refine Rg.skips 9 (by kernel_rfl) ?_
   refine Rg.p 22 (.pick (.tmp 16) (.tmp 21) (.const (.bool false))) (pv_pick_f rfl rfl) ?_
   refine Rg.nx (fun _ _ h => h) [22,16,15,14,13,12,11,10,9,8,7,6,4,3,0] rfl ?_
   refine ev_cond_f (t := 22) (by kernel_rfl) rfl ?_
   refine Ev.sk ?_
   refine At.nx (fun _ _ h => h) [22,16,15,14,13,12,11,10,9,8,7,6,4,3,0] rfl ?_
   refine Ev.rg 2 ?_
   refine Rg.p 23 (.binOp .add 3 (.tmp 8) (.const (.int .i64 1)) 3) (pv_addb rfl rfl (in_i64 (by omega) (by omega))) ?_
   refine Rg.mv 8 23 rfl ?_
   refine Rg.fin rfl ?_
   refine At.round (t := (k, t)) (fun _ _ h => h) (k + 1, t) [1, 2, 3, 4] (by show k + 1 ≤ ns.length; omega) (by show ns.length - (k + 1) < ns.length - k; omega) (.cons (rfl) (.cons (rfl) (.cons (rfl) (.cons (rfl) (.nil _))))) (by show _ = [blk b (.cells #[.slice p ns.length cap, .int .u32 gen] 25 (0, 0)), J (livTo ns (k + 1)).length t, fr, base w0 (Low w0)]; rw [livTo_n h3]; rfl) (by decide)
 ·
  have h6 := of_decide_eq_false h1
  refine Ev.xt 0 ?_
  refine At.via (Q := Q) hQ ?_
  refine At.norm0 ?_ ?_ ?_
  ·
   rfl
  ·
   rfl
  exact fun w hw => ⟨⟨_, rfl⟩, .inl ⟨t, (by have e : k = ns.length := (by omega); subst e; rw [livRows_length]; exact hw.pick [1, 2, 3] (by decide))⟩⟩

end Go.Proofs.Ytfhhggcdmgjbcaa.Sx

namespace Go.Proofs.Ytfhhggcdmgjbcaa.Sx
open Go Go.RowKit Go.Proofs

def upL (ns : List Node) : Nat → Int → List Int
  | 0, _ => []
  | f + 1, d => cond (isS ns d 2) (d :: cond (decide (d = 1)) [] (upL ns f (nd ns d.toNat).parent)) []
def ups (ns : List Node) (dir : Int) : List Int := upL ns (ns.length + 1) dir
def upRows (ns : List Node) (dir : Int) : List (List Value) := (ups ns dir).map fun d => [.int .i64 d]
theorem upRows_length (ns : List Node) (dir : Int) : (upRows ns dir).length = (ups ns dir).length := by simp [upRows]
theorem upRows_get {ns : List Node} {dir : Int} {n : Nat} (h : n < (ups ns dir).length) : (upRows ns dir).getD n [] = [.int .i64 ((ups ns dir).getD n 0)] := by
  simp [upRows, List.getD_eq_getElem?_getD, List.getElem?_map, List.getElem?_eq_getElem h]
section
variable {ns : List Node} {dir d : Int} {j : Nat}
theorem up_step (hj : j < ns.length + 1) : upL ns (ns.length + 1 - j) d = cond (isS ns d 2) (d :: cond (decide (d = 1)) [] (upL ns (ns.length + 1 - (j + 1)) (nd ns d.toNat).parent)) [] := by
  rw [show ns.length + 1 - j = (ns.length + 1 - (j + 1)) + 1 by omega]; rfl
theorem upA (hj : j < ns.length + 1) (hd : (ups ns dir).drop j = upL ns (ns.length + 1 - j) d) (hl : j ≤ (ups ns dir).length) (h : isS ns d 2 = false) : (upRows ns dir).length = j := by
  rw [up_step hj, h] at hd
  have := List.drop_eq_nil_iff.1 hd
  rw [upRows_length]; omega
theorem upB (hj : j < ns.length + 1) (hd : (ups ns dir).drop j = upL ns (ns.length + 1 - j) d) (h : isS ns d 2 = true) : j < (upRows ns dir).length ∧ (upRows ns dir).getD j [] = [.int .i64 d] := by
  rw [up_step hj, h] at hd
  have hlt : j < (ups ns dir).length := by
    rcases Nat.lt_or_ge j (ups ns dir).length with h1 | h1
    · exact h1
    · rw [List.drop_eq_nil_iff.2 h1] at hd; simp at hd
  rw [upRows_length, upRows_get hlt]
  refine ⟨hlt, ?_⟩
  rw [List.drop_eq_getElem_cons hlt] at hd
  simp only [cond_true, List.cons.injEq] at hd
  rw [List.getD_eq_getElem?_getD, List.getElem?_eq_getElem hlt, ← hd.1]; rfl
theorem upD (hj : j < ns.length + 1) (hd : (ups ns dir).drop j = upL ns (ns.length + 1 - j) d) (h : isS ns d 2 = true) : (ups ns dir).drop (j + 1) = cond (decide (d = 1)) [] (upL ns (ns.length + 1 - (j + 1)) (nd ns d.toNat).parent) := by
  have hlt := (upB hj hd h).1
  rw [upRows_length] at hlt
  rw [up_step hj, h, List.drop_eq_getElem_cons hlt] at hd
  simp only [cond_true, List.cons.injEq] at hd
  exact hd.2
theorem upC (hj : j < ns.length + 1) (hd : (ups ns dir).drop j = upL ns (ns.length + 1 - j) d) (h : isS ns d 2 = true) (h1 : decide (d = 1) = true) : (upRows ns dir).length = j + 1 := by
  have h2 := upD hj hd h
  have hlt := (upB hj hd h).1
  rw [h1, cond_true] at h2
  have := List.drop_eq_nil_iff.1 h2
  rw [upRows_length] at hlt ⊢; omega
theorem upE (hj : j = ns.length + 1) (hd : (ups ns dir).drop j = upL ns (ns.length + 1 - j) d) (hl : j ≤ (ups ns dir).length) : (upRows ns dir).length = j := by
  subst hj
  rw [Nat.sub_self] at hd
  have := List.drop_eq_nil_iff.1 hd
  rw [upRows_length]; omega
end

set_option maxHeartbeats 8000000 in
theorem up_calls {p : Option Addr} {n cap : Nat} {gen dir : Int} {w : World} :
  Calls Try.prog 63 #[.agg #[.slice p n cap, .int .u32 gen], .int .i64 dir] w (RetN w (fun _ : Nat × Nat => True) (fun x => .func (.func 116) #[] #[.pointer (some ⟨x.1, 0, none⟩), .pointer (some ⟨x.2, 0, none⟩)]) (fun x => [blk x.1 (.cells #[.slice p n cap, .int .u32 gen] 25 (0, 0)), blk x.2 (.cells #[.int .i64 dir] 3 (0, 0))])) := by
 refine calls_ofQ (args := [_, _]) [base w (Low w)] Try.func63 (by kernel_rfl) (by kernel_rfl) (Heap.start w) ?_
 intro Q hQ
 refine Ev.sr 3 ?_
 refine Rg.bx 2 25 (.tmp 0) rfl fun b1 => ?_
 refine Rg.bx 3 3 (.tmp 1) rfl fun b2 => ?_
 refine Rg.ac 4 (.nilFunc) ?_
 refine Rg.nx (fun _ _ h => h) [4,3,2] rfl ?_
 refine Ev.sr 2 ?_
 refine Rg.p 5 (.makeFunc (.func 116) #[] #[.tmp 2, .tmp 3]) (v := .func (.func 116) #[] #[.pointer (some ⟨b1, 0, none⟩), .pointer (some ⟨b2, 0, none⟩)]) (pv_makeFunc (xs := [.tmp 2, .tmp 3]) rfl) ?_
 refine Rg.as 4 5 rfl ?_
 refine Rg.nx (fun _ _ h => h) [4] rfl ?_
 refine Ev.rt ?_
 refine At.via (Q := Q) hQ ?_
 refine At.ret1 rfl rfl rfl ?_
 exact fun w hw => ⟨(b1, b2), trivial, rfl, hw.pick [1, 0, 2] (by decide)⟩

set_option maxHeartbeats 8000000 in
theorem up1_iter {b bd cap : Nat} {p : Option Addr} {ns : List Node} {al : List Loc} {gen dir : Int} {w0 : World} (hT : NodesAt (Low w0) w0 p ns al) (hlen : ns.length ≤ 16777216) :
  IterAt Try.prog 116 #[.pointer (some ⟨b, 0, none⟩), .pointer (some ⟨bd, 0, none⟩)] (upRows ns dir) w0 [blk b (.cells #[.slice p ns.length cap, .int .u32 gen] 25 (0, 0)), blk bd (.cells #[.int .i64 dir] 3 (0, 0))] [base w0 (Low w0)] := by
 intro T J Jx l t0 w fr h hY
 refine calls_ofQ (args := [.func (.yield l) #[] #[], .pointer (some ⟨b, 0, none⟩), .pointer (some ⟨bd, 0, none⟩)]) [blk b (.cells #[.slice p ns.length cap, .int .u32 gen] 25 (0, 0)), blk bd (.cells #[.int .i64 dir] 3 (0, 0)), J 0 t0, fr, base w0 (Low w0)] Try.func116 (by kernel_rfl) (by kernel_rfl) h ?_
 intro Q hQ
 refine Ev.sr 5 ?_
 refine Rg.fa 4 25 1 0 0 rfl ?_
 refine Rg.ld 5 22 4 0 rfl rfl rfl ?_
 refine Rg.p 6 (.call { callee := .builtin .len, args := #[.tmp 5], argTypes := #[22] }) (pv_len_slice rfl (by kernel_rfl)) ?_
 refine Rg.p 7 (.binOp .add 3 (.tmp 6) (.const (.int .i64 1)) 3) (pv_addb rfl rfl (in_i64 (by omega) (by omega))) ?_
 refine Rg.mc 8 (.int .i64 0) ?_
 refine Rg.nx (fun _ _ h => h) [8,7,2,1,0] rfl ?_
 refine Ev.bk 0 ?_
 refine ev_loop (T := Nat × Int × T) (fun x_ => (fun j d t => [(0, .func (.yield l) #[] #[]), (1, .pointer (some ⟨b, 0, none⟩)), (2, .pointer (some ⟨bd, 0, none⟩)), (7, .int .i64 ((ns.length : Int) + 1)), (8, .int .i64 (j : Int))]) x_.1 x_.2.1 x_.2.2) (fun x_ => (fun j d t => [blk b (.cells #[.slice p ns.length cap, .int .u32 gen] 25 (0, 0)), blk bd (.cells #[.int .i64 d] 3 (0, 0)), J j t, fr, base w0 (Low w0)]) x_.1 x_.2.1 x_.2.2) (fun x_ => (fun j d t => j ≤ ns.length + 1 ∧ (ups ns dir).drop j = upL ns (ns.length + 1 - j) d ∧ j ≤ (ups ns dir).length) x_.1 x_.2.1 x_.2.2) (fun x_ => (fun j d t => ns.length + 1 - j) x_.1 x_.2.1 x_.2.2) (0, dir, t0) [0, 1, 2, 3, 4] (by kernel_rfl) ⟨Nat.zero_le _, rfl, Nat.zero_le _⟩ (.cons (rfl) (.cons (rfl) (.cons (rfl) (.cons (rfl) (.cons (rfl) (.nil _)))))) rfl (by decide) ?_
 rintro ⟨j, d, t⟩ ⟨(hj : j ≤ ns.length + 1), (hd : (ups ns dir).drop j = upL ns (ns.length + 1 - j) d), (hl : j ≤ (ups ns dir).length)⟩
 show Ev _ _ [(0, .func (.yield l) #[] #[]), (1, .pointer (some ⟨b, 0, none⟩)), (2, .pointer (some ⟨bd, 0, none⟩)), (7, .int .i64 ((ns.length : Int) + 1)), (8, .int .i64 (j : Int))] [blk b (.cells #[.slice p ns.length cap, .int .u32 gen] 25 (0, 0)), blk bd (.cells #[.int .i64 d] 3 (0, 0)), J j t, fr, base w0 (Low w0)] _
 refine Ev.sr 1 ?_
 refine Rg.p 9 (.binOp .lss 3 (.tmp 8) (.tmp 7) 3) (pv_lss rfl rfl) ?_
 refine Rg.nx (fun _ _ h => h) [9,8,7,2,1,0] rfl ?_
 refine Ev.sq ?_
 refine Ev.cd 9 rfl (fun h1 => ?_) (fun h1 => ?_)
 ·
  have h2 := of_decide_eq_true h1
  refine Ev.sk ?_
  refine At.nx (fun _ _ h => h) [9,8,7,2,1,0] rfl ?_
  refine Ev.sq ?_
  refine Ev.bk 1 ?_
  refine Ev.sq ?_
  refine Ev.sr 14 ?_
  refine Rg.p 10 (.load 25 (.tmp 1)) (v := .agg #[.slice p ns.length cap, .int .u32 gen]) (pv_load_blk_whole 0 rfl rfl (by kernel_rfl) (by kernel_rfl)) ?_
  refine Rg.ld 11 3 2 1 rfl rfl rfl ?_
  refine Rg.cl (some 12) 53 #[.tmp 10, .tmp 11, .const (.int .u32 2)] #[25, 3, 33] (v := .bool (isS ns d 2)) rfl (fun w hw => is_calls ((hT).keep (hw.at_ 4 rfl) (fun k hk => hw.lt 4 rfl hk))) ?_
  refine Rg.p 13 (.unOp .not 4 (.tmp 12)) (pv_not (b := isS ns d 2) rfl) ?_
  refine Rg.mv 14 13 rfl ?_
  refine Rg.fork 14 (g := !(isS ns d 2)) rfl (fun h3 => ?_) (fun h3 => ?_)
  ·
   have h4 := not_t h3
   refine Rg.skips 9 (by kernel_rfl) ?_
   refine Rg.p 19 (.pick (.tmp 14) (.const (.bool true)) (.tmp 18)) (pv_pick_t rfl rfl) ?_
   refine Rg.mv 20 19 rfl ?_
   refine Rg.skips 13 (by kernel_rfl) ?_
   refine Rg.p 23 (.pick (.tmp 20) (.const (.bool true)) (.tmp 22)) (pv_pick_t rfl rfl) ?_
   refine Rg.nx (fun _ _ h => h) [23,20,19,14,13,12,11,10,9,8,7,2,1,0] rfl ?_
   refine ev_cond_t (t := 23) (by kernel_rfl) rfl ?_
   refine Ev.rt ?_
   refine At.via (Q := Q) hQ ?_
   refine At.ret0 ?_ ?_ ?_
   ·
    rfl
   ·
    rfl
   exact fun w hw => ⟨⟨_, rfl⟩, .inl ⟨t, (by rw [upA (by omega) hd hl (show isS ns d 2 = false by simpa using h3)]; exact hw.pick [2, 3, 4] (by decide))⟩⟩
  ·
   have h5 := not_f h3
   have ⟨h6, h7, h8, h9⟩ := isS_t h5
   refine Rg.pg 4 false 15 (.move (.tmp 0)) (pv_move rfl) ?_
   refine Rg.pg 4 false 16 (.load 3 (.tmp 2)) (v := .int .i64 d) (pv_load_blk 1 rfl rfl (by kernel_rfl) rfl) ?_
   refine rg_yield (T := T) (d := 17) (l := l) (fo := .tmp 15) (xs := #[.tmp 16]) (ts := #[3]) (g := some (4, false)) (S1 := fun t1 => [blk b (.cells #[.slice p ns.length cap, .int .u32 gen] 25 (0, 0)), blk bd (.cells #[.int .i64 d] 3 (0, 0)), J (j + 1) t1, fr, base w0 (Low w0)]) (S2 := fun t1 => [blk b (.cells #[.slice p ns.length cap, .int .u32 gen] 25 (0, 0)), blk bd (.cells #[.int .i64 d] 3 (0, 0)), Jx (j + 1) t1, fr, base w0 (Low w0)]) rfl (by kernel_rfl) (by kernel_rfl) rfl rfl (yield_own hY [blk b (.cells #[.slice p ns.length cap, .int .u32 gen] 25 (0, 0)), blk bd (.cells #[.int .i64 d] 3 (0, 0))] (j) t (upB (by omega) hd (show isS ns d 2 = true by simpa using h3)).1 (upB (by omega) hd (show isS ns d 2 = true by simpa using h3)).2) (fun t1 => ?_) (fun t1 => ?_)
   ·
    refine Rg.pg 4 false 18 (.unOp .not 4 (.tmp 17)) (pv_not (b := true) rfl) ?_
    refine Rg.p 19 (.pick (.tmp 14) (.const (.bool true)) (.tmp 18)) (pv_pick_f rfl rfl) ?_
    refine Rg.mv 20 19 rfl ?_
    refine Rg.pg 10 false 21 (.load 3 (.tmp 2)) (v := .int .i64 d) (pv_load_blk 1 rfl rfl (by kernel_rfl) rfl) ?_
    refine Rg.pg 10 false 22 (.binOp .eql 3 (.tmp 21) (.const (.int .i64 1)) 3) (pv_eql rfl rfl) ?_
    refine Rg.p 23 (.pick (.tmp 20) (.const (.bool true)) (.tmp 22)) (pv_pick_f rfl rfl) ?_
    refine Rg.nx (fun _ _ h => h) [23,22,21,20,19,18,17,16,15,14,13,12,11,10,9,8,7,2,1,0] rfl ?_
    refine Ev.cd 23 rfl (fun h10 => ?_) (fun h10 => ?_)
    ·
     have h11 := of_decide_eq_true h10
     refine Ev.rt ?_
     refine At.via (Q := Q) hQ ?_
     refine At.ret0 ?_ ?_ ?_
     ·
      rfl
     ·
      rfl
     exact fun w hw => ⟨⟨_, rfl⟩, .inl ⟨t1, (by rw [upC (by omega) hd (show isS ns d 2 = true by simpa using h3) h10]; exact hw.pick [2, 3, 4] (by decide))⟩⟩
    ·
     have h12 := of_decide_eq_false h10
     refine Ev.sk ?_
     refine At.nx (fun _ _ h => h) [23,22,21,20,19,18,17,16,15,14,13,12,11,10,9,8,7,2,1,0] rfl ?_
     refine Ev.rg 7 ?_
     refine Rg.fa 24 25 1 0 0 rfl ?_
     refine Rg.ld 25 22 24 0 rfl rfl rfl ?_
     refine Rg.ld 26 3 2 1 rfl rfl rfl ?_
     have ⟨q2, o3, hp4⟩ := hT.rows.adr (by omega)
     refine Rg.p 27 (.indexAddr 22 (.tmp 25) (.tmp 26)) (v := .pointer (some ⟨q2, o3 + (d).toNat * 25, none⟩)) (pv_indexAddr' rfl hp4 rfl (e := 44) (sz := 25) (by kernel_rfl) (by omega) (by omega)) ?_
     refine Rg.fa 28 44 27 13 23 rfl ?_
     refine Rg.p 29 (.load 3 (.tmp 28)) (v := .int .i64 ((nd ns ((d).toNat)).parent)) (pv_load rfl (by kernel_rfl) (fun w hw => ((hT).keep (hw.at_ 4 rfl) (fun _ h => h)).rows.cell _ _ hp4 _ (by omega) 23 (by decide))) ?_
     refine Rg.st 3 2 (.tmp 29) 1 #[.int .i64 ((nd ns ((d).toNat)).parent)] rfl rfl rfl ?_
     refine Rg.nx (fun _ _ h => h) [29,28,27,26,25,24,23,22,21,20,19,18,17,16,15,14,13,12,11,10,9,8,7,2,1,0] rfl ?_
     refine Ev.rg 2 ?_
     refine Rg.p 30 (.binOp .add 3 (.tmp 8) (.const (.int .i64 1)) 3) (pv_addb rfl rfl (in_i64 (by omega) (by omega))) ?_
     refine Rg.mv 8 30 rfl ?_
     refine Rg.fin rfl ?_
     refine At.round (t := (j, d, t)) (fun _ _ h => h) (j + 1, (nd ns ((d).toNat)).parent, t1) [0, 1, 2, 3, 4] ⟨(by show j + 1 ≤ ns.length + 1; omega), (by have e := upD (by omega) hd (show isS ns d 2 = true by simpa using h3); rw [h10] at e; exact e), (by have e := (upB (by omega) hd (show isS ns d 2 = true by simpa using h3)).1; rw [upRows_length] at e; exact e)⟩ (by show ns.length + 1 - (j + 1) < ns.length + 1 - j; omega) (.cons (rfl) (.cons (rfl) (.cons (rfl) (.cons (rfl) (.cons (rfl) (.nil _)))))) rfl (by decide)
   ·
    refine Rg.pg 4 false 18 (.unOp .not 4 (.tmp 17)) (pv_not (b := false) rfl) ?_
    refine Rg.p 19 (.pick (.tmp 14) (.const (.bool true)) (.tmp 18)) (pv_pick_f rfl rfl) ?_
    refine Rg.mv 20 19 rfl ?_
    refine Rg.skips 13 (by kernel_rfl) ?_
    refine Rg.p 23 (.pick (.tmp 20) (.const (.bool true)) (.tmp 22)) (pv_pick_t rfl rfl) ?_
    refine Rg.nx (fun _ _ h => h) [23,20,19,18,17,16,15,14,13,12,11,10,9,8,7,2,1,0] rfl ?_
    refine ev_cond_t (t := 23) (by kernel_rfl) rfl ?_
    refine Ev.rt ?_
    refine At.via (Q := Q) hQ ?_
    refine At.ret0 ?_ ?_ ?_
    ·
     rfl
    ·
     rfl
    exact fun w hw => ⟨⟨_, rfl⟩, .inr ⟨_, _, (upB (by omega) hd (show isS ns d 2 = true by simpa using h3)).1, hw.pick [2, 3, 4] (by decide)⟩⟩
 ·
  have h13 := of_decide_eq_false h1
  refine Ev.xt 0 ?_
  refine At.via (Q := Q) hQ ?_
  refine At.norm0 ?_ ?_ ?_
  ·
   rfl
  ·
   rfl
  exact fun w hw => ⟨⟨_, rfl⟩, .inl ⟨t, (by rw [upE (by omega) hd hl]; exact hw.pick [2, 3, 4] (by decide))⟩⟩

def withinS (ns : List Node) (dir top : Int) : Bool := (ups ns dir).any fun d => decide (d = top)
theorem withinS_t {ns : List Node} {dir top : Int} (h : ∃ m, m < (ups ns dir).length ∧ (ups ns dir).getD m 0 = top) : withinS ns dir top = true := by
  obtain ⟨m, h1, h2⟩ := h
  refine List.any_eq_true.2 ⟨(ups ns dir).getD m 0, ?_, by simpa using h2⟩
  rw [List.getD_eq_getElem?_getD, List.getElem?_eq_getElem h1]; exact List.getElem_mem h1
theorem withinS_f {ns : List Node} {dir top : Int} (h : ∀ m, m < (ups ns dir).length → (ups ns dir).getD m 0 ≠ top) : withinS ns dir top = false := by
  rw [withinS, List.any_eq_false]
  intro d hd
  obtain ⟨m, h1, rfl⟩ := List.mem_iff_getElem.1 hd
  have := h m h1
  rw [List.getD_eq_getElem?_getD, List.getElem?_eq_getElem h1] at this
  simpa using this

set_option maxHeartbeats 8000000 in
theorem Within_calls {dir top : Int} {p : Option Addr} {ns : List Node} {al : List Loc} {cap : Nat} {gen : Int} {w : World} (hT : NodesAt (Low w) w p ns al) (hW : NodesWf ns) :
  Calls Try.prog 20 #[.agg #[.slice p ns.length cap, .int .u32 gen], .int .i64 dir, .int .i64 top] w (Ret w (.bool (withinS ns dir top))) := by
 refine calls_ofM (args := [_, _, _]) [base w (Low w)] Try.func20 (by kernel_rfl) (by kernel_rfl) (Heap.start w) ?_
 intro Q hQ
 have hlen := hW.len
 refine Ev.sr 3 ?_
 refine Rg.bx 3 25 (.tmp 0) rfl fun b1 => ?_
 refine Rg.bx 5 3 (.tmp 2) rfl fun b2 => ?_
 refine Rg.al 6 4 (.bool false) fun b3 => ?_
 refine Rg.nx (fun _ _ h => h) [6,5,3,1] rfl ?_
 refine Ev.sq ?_
 refine Ev.sr 3 ?_
 refine Rg.p 8 (.load 25 (.tmp 3)) (v := .agg #[.slice p ns.length cap, .int .u32 gen]) (pv_load_blk_whole 2 rfl rfl (by kernel_rfl) (by kernel_rfl)) ?_
 refine Rg.mv 9 1 rfl ?_
 refine Rg.cn (T := Nat × Nat) (some 10) 63 #[.tmp 8, .tmp 9] #[25, 3] (v := fun ⟨b4, b5⟩ => .func (.func 116) #[] #[.pointer (some ⟨b4, 0, none⟩), .pointer (some ⟨b5, 0, none⟩)]) (L := fun ⟨b4, b5⟩ => [blk b4 (.cells #[.slice p ns.length cap, .int .u32 gen] 25 (0, 0)), blk b5 (.cells #[.int .i64 dir] 3 (0, 0))]) rfl (fun w hw => up_calls) ?_
 rintro ⟨b4, b5⟩ _
 dsimp only [putE, List.append, HAppend.hAppend, Append.append]
 refine Rg.nx (fun _ _ h => h) [10,6,5] rfl ?_
 refine Ev.bk 0 ?_
 refine Ev.addFact (show ∀ m, m < 0 → (ups ns dir).getD m 0 ≠ top from fun m hm => absurd hm (Nat.not_lt_zero _)) ?_
 refine ev_rangeFunc (T := Unit) (t := 10) (ps := #[11]) (gf := 116) (caps := #[.pointer (some ⟨b4, 0, none⟩), .pointer (some ⟨b5, 0, none⟩)]) (upRows ns dir) (fun i_ u_ => [blk b3 (.cells #[.bool false] 4 (0, 0)), blk b2 (.cells #[.int .i64 top] 3 (0, 0)), fact (∀ m, m < i_ → (ups ns dir).getD m 0 ≠ top)]) (fun i_ u_ => [blk b3 (.cells #[.bool true] 4 (0, 0)), blk b2 (.cells #[.int .i64 top] 3 (0, 0)), fact (∃ m, m < (ups ns dir).length ∧ (ups ns dir).getD m 0 = top)]) (.ret) () [blk b4 (.cells #[.slice p ns.length cap, .int .u32 gen] 25 (0, 0)), blk b5 (.cells #[.int .i64 dir] 3 (0, 0))] [base w (Low w)] (by kernel_rfl) rfl rfl (by kernel_rfl) (by kernel_rfl) (by simp [upRows]) (fun w hw => hw.pick [3, 4, 0, 1, 2, 6] (by decide)) (up1_iter hT hlen) ?_ ?_ ?_
 ·
  intro F l Db0 i_ u_ fr hn
  have hn_ := hn
  rw [show (upRows ns dir).length = (ups ns dir).length from upRows_length ns dir] at hn_
  rw [show (upRows ns dir).getD i_ [] = [.int .i64 ((ups ns dir).getD i_ 0)] from (upRows_get (by rw [upRows_length] at hn; exact hn))]
  refine Ev.weak (E' := [(5, .pointer (some ⟨b2, 0, none⟩)), (6, .pointer (some ⟨b3, 0, none⟩)), (11, .int .i64 ((ups ns dir).getD i_ 0))]) (S' := [blk b3 (.cells #[.bool false] 4 (0, 0)), blk b2 (.cells #[.int .i64 top] 3 (0, 0)), fact (∀ m, m < i_ → (ups ns dir).getD m 0 ≠ top), blk l (.loop (F.rc .ready none)), blk Db0 (.deferred (some [])), fr, base w (Low w)]) [0, 1, 2, 3, 4, 5, 6] (.cons (rfl) (.cons (rfl) (.cons (rfl) (.nil _)))) rfl (by decide) ?_
  refine Ev.factAt 2 rfl (fun hno => ?_)
  refine Ev.rg 1 ?_
  refine Rg.as 7 11 rfl ?_
  refine Rg.fin rfl ?_
  refine at_beginQ (E' := [(5, .pointer (some ⟨b2, 0, none⟩)), (6, .pointer (some ⟨b3, 0, none⟩)), (7, .int .i64 ((ups ns dir).getD i_ 0))]) 3 [0, 1, 2, 3, 4, 5, 6] rfl rfl (.cons (rfl) (.cons (rfl) (.cons (rfl) (.nil _)))) (by decide) ?_
  intro Qr hQr
  refine Ev.bk 1 ?_
  refine Ev.sr 3 ?_
  refine Rg.mv 12 7 rfl ?_
  refine Rg.ld 13 3 5 1 rfl rfl rfl ?_
  refine Rg.p 14 (.binOp .eql 3 (.tmp 12) (.tmp 13) 3) (pv_eql rfl rfl) ?_
  refine Rg.nx (fun _ _ h => h) [14,6] rfl ?_
  refine Ev.cd 14 rfl (fun h1 => ?_) (fun h1 => ?_)
  ·
   have h2 := of_decide_eq_true h1
   refine Ev.sr 1 ?_
   refine Rg.st 4 6 (.const (.bool true)) 0 #[.bool true] rfl rfl rfl ?_
   refine Rg.nx (fun _ _ h => h) [6] rfl ?_
   refine Ev.rt ?_
   refine At.via (Q := Qr) hQr ?_
   refine at_roundRet () 3 rfl (fun w hw => (hw.addFact (show ∃ m, m < (ups ns dir).length ∧ (ups ns dir).getD m 0 = top from ⟨i_, hn_, of_decide_eq_true h1⟩)).pick [1, 2, 0, 4, 5, 6, 7] (by decide))
  ·
   have h3 := of_decide_eq_false h1
   refine Ev.sk ?_
   refine At.via (Q := Qr) hQr ?_
   refine at_roundEnd () 3 rfl (fun w hw => (hw.addFact (show ∀ m, m < i_ + 1 → (ups ns dir).getD m 0 ≠ top from fun m hm => by rcases Nat.lt_succ_iff_lt_or_eq.1 hm with h1_ | h1_; exact hno m h1_; subst h1_; exact of_decide_eq_false h1)).pick [1, 2, 0, 4, 5, 6, 7] (by decide))
 ·
  intro Db0 u_
  rw [show (upRows ns dir).length = (ups ns dir).length from upRows_length ns dir]
  refine At.factAt 2 rfl (fun hno => ?_)
  refine At.nx (fun _ _ h => h) [6] rfl ?_
  refine Ev.sr 1 ?_
  refine Rg.st 4 6 (.const (.bool false)) 0 #[.bool false] rfl rfl rfl ?_
  refine Rg.nx (fun _ _ h => h) [6] rfl ?_
  refine Ev.rt ?_
  refine At.via (Q := Q) hQ ?_
  refine At.leave ?_
  refine LeaveAt.mark 3 rfl ?_
  refine LeaveAt.one rfl (reads_cell 0 rfl rfl (by kernel_rfl) rfl) ?_
  exact fun w hw => ⟨(by rw [withinS_f hno]; rfl), hw.base_below 4 rfl⟩
 ·
  intro Db0 i_ u_ hn
  refine Ev.factAt 2 rfl (fun hyes => ?_)
  refine ev_ret (by kernel_rfl) ?_
  refine At.via (Q := Q) hQ ?_
  refine At.leave ?_
  refine LeaveAt.mark 3 rfl ?_
  refine LeaveAt.one rfl (reads_cell 0 rfl rfl (by kernel_rfl) rfl) ?_
  exact fun w hw => ⟨(by rw [withinS_t hyes]; rfl), hw.base_below 4 rfl⟩

end Go.Proofs.Ytfhhggcdmgjbcaa.Sx

namespace Go.Proofs.Ytfhhggcdmgjbcaa.Sx
open Go Go.RowKit Go.Proofs

def lastN (es : List Entry) : Nat → Int
  | 0 => 2
  | k + 1 => (en es k).cookie
def namN (es : List Entry) : Nat → List (ByteArray × Int)
  | 0 => []
  | k + 1 => upd (namN es k) (en es k).name ((look (namN es k) (en es k).name).getD 0 + 1)
theorem namN_range (es : List Entry) (k : Nat) (s : ByteArray) : 0 ≤ (look (namN es k) s).getD 0 ∧ (look (namN es k) s).getD 0 ≤ (k : Int) := by
  induction k generalizing s with
  | zero => simp [namN, look]
  | succ k ih =>
    simp only [namN, look_upd]
    by_cases h : s = (en es k).name
    · rw [if_pos h]
      have := ih (en es k).name
      simp only [Option.getD_some]; omega
    · rw [if_neg h]
      have := ih s
      omega
noncomputable def badE (ns : List Node) (d : Node) (k : Nat) : Bool :=
  (((((((decide ((en d.list k).cookie ≤ lastN d.list k) || decide (d.next ≤ (en d.list k).cookie)) || decide (1 < (look (namN d.list (k + 1)) (en d.list k).name).getD 0)) || !decide (nameS (en d.list k).name = 0)) ||
    decide ((en d.list k).name = ⟨#[46]⟩)) || decide ((en d.list k).name = ⟨#[46, 46]⟩)) || decide ((en d.list k).node = 1)) || !thereS ns (en d.list k).node)
noncomputable def entriesS (ns : List Node) (d : Node) : Bool :=
  cond (decide (1024 < (d.list.length : Int))) false ((List.range d.list.length).all (fun k => !badE ns d k) && decide (lastN d.list d.list.length < d.next))
theorem entriesS_bad {ns : List Node} {d : Node} {k : Nat} (hk : k < d.list.length) (h : badE ns d k = true) : entriesS ns d = false := by
  have : (List.range d.list.length).all (fun k => !badE ns d k) = false := List.all_eq_false.2 ⟨k, List.mem_range.2 hk, by simp [h]⟩
  unfold entriesS
  rw [this]; cases decide (1024 < (d.list.length : Int)) <;> rfl
theorem entriesS_good {ns : List Node} {d : Node} (h0 : decide (1024 < (d.list.length : Int)) = false) (h : ∀ k, k < d.list.length → badE ns d k = false) : entriesS ns d = decide (lastN d.list d.list.length < d.next) := by
  have : (List.range d.list.length).all (fun k => !badE ns d k) = true := List.all_eq_true.2 fun k hk => by simp [h k (List.mem_range.1 hk)]
  unfold entriesS
  rw [this, h0]; simp

set_option maxHeartbeats 8000000 in
theorem entries_calls {d : Node} {a : Loc} {p : Option Addr} {ns : List Node} {al : List Loc} {cap : Nat} {gen : Int} {w : World} (hT : NodesAt (Low w) w p ns al) (hW : NodesWf ns) (hD : NodeAt (Low w) w d a) (hWd : NodeWf d) :
  Calls Try.prog 60 #[.agg #[.slice p ns.length cap, .int .u32 gen], .agg (d.cells a)] w (Ret w (.bool (entriesS ns d))) := by
 refine calls_ofQ (args := [_, _]) [base w (Low w)] Try.func60 (by kernel_rfl) (by kernel_rfl) (Heap.start w) ?_
 intro Q hQ
 refine Ev.sr 3 ?_
 refine Rg.bx 2 25 (.tmp 0) rfl fun b1 => ?_
 refine Rg.bx 3 44 (.tmp 1) rfl fun b2 => ?_
 refine Rg.ac 4 (.bool false) ?_
 refine Rg.nx (fun _ _ h => h) [4,3,2] rfl ?_
 refine Ev.sr 3 ?_
 refine rg_makeMap (d := 9) (t := 28) (g := none) strKey (by kernel_rfl) (by kernel_rfl) ?_
 intro r3
 refine Rg.ac 5 (.int .u64 2) ?_
 refine Rg.as 6 9 rfl ?_
 refine Rg.nx (fun _ _ h => h) [6,5,4,3,2] rfl ?_
 refine Ev.sq ?_
 refine Ev.sr 4 ?_
 refine Rg.fa 10 44 3 12 22 rfl ?_
 refine Rg.ld 11 42 10 1 rfl rfl rfl ?_
 refine Rg.p 12 (.call { callee := .builtin .len, args := #[.tmp 11], argTypes := #[42] }) (pv_len_slice rfl (by kernel_rfl)) ?_
 refine Rg.p 13 (.binOp .gtr 3 (.tmp 12) (.const (.int .i64 1024)) 3) (pv_gtr rfl rfl) ?_
 refine Rg.nx (fun _ _ h => h) [13,6,5,4,3,2] rfl ?_
 refine Ev.cd 13 rfl (fun h1 => ?_) (fun h1 => ?_)
 ·
  have h2 := of_decide_eq_true h1
  refine Ev.sr 1 ?_
  refine Rg.ac 4 (.bool false) ?_
  refine Rg.nx (fun _ _ h => h) [6,5,4,3,2] rfl ?_
  refine Ev.rt ?_
  refine At.via (Q := Q) hQ ?_
  refine At.ret1 rfl rfl rfl ?_
  exact fun w hw => ⟨(by unfold entriesS; rw [h1]; rfl), hw.base_below 3 rfl⟩
 ·
  have h3 := of_decide_eq_false h1
  refine Ev.sk ?_
  refine At.nx (fun _ _ h => h) [6,5,4,3,2] rfl ?_
  refine Ev.sq ?_
  refine Ev.sr 4 ?_
  refine Rg.fa 14 44 3 12 22 rfl ?_
  refine Rg.ld 15 42 14 1 rfl rfl rfl ?_
  refine Rg.p 16 (.call { callee := .builtin .len, args := #[.tmp 15], argTypes := #[42] }) (pv_len_slice rfl (by kernel_rfl)) ?_
  refine Rg.mc 17 (.int .i64 0) ?_
  refine Rg.nx (fun _ _ h => h) [17,16,15,6,5,4,3,2] rfl ?_
  refine Ev.bk 0 ?_
  refine ev_loop (T := Nat) (fun k => [(2, .pointer (some ⟨b1, 0, none⟩)), (3, .pointer (some ⟨b2, 0, none⟩)), (4, .bool false), (5, .int .u64 (lastN d.list k)), (6, .map (some r3)), (15, .slice a.lA d.list.length a.lCap), (16, .int .i64 (d.list.length : Int)), (17, .int .i64 (k : Int))]) (fun k => [mapItem strKey r3 (namN d.list k : List (ByteArray × Int)), blk b2 (.cells (d.cells a) 44 (0, 0)), blk b1 (.cells #[.slice p ns.length cap, .int .u32 gen] 25 (0, 0)), base w (Low w)]) (fun k => k ≤ d.list.length ∧ ∀ m, m < k → badE ns d m = false) (fun k => d.list.length - k) 0 [0, 1, 2, 3] (by kernel_rfl) ⟨Nat.zero_le _, fun m hm => absurd hm (Nat.not_lt_zero _)⟩ (.cons (rfl) (.cons (rfl) (.cons (rfl) (.cons (rfl) (.cons (rfl) (.cons (rfl) (.cons (rfl) (.cons (rfl) (.nil _))))))))) rfl (by decide) ?_
  rintro k ⟨(hk : k ≤ d.list.length), (hno : ∀ m, m < k → badE ns d m = false)⟩
  show Ev _ _ [(2, .pointer (some ⟨b1, 0, none⟩)), (3, .pointer (some ⟨b2, 0, none⟩)), (4, .bool false), (5, .int .u64 (lastN d.list k)), (6, .map (some r3)), (15, .slice a.lA d.list.length a.lCap), (16, .int .i64 (d.list.length : Int)), (17, .int .i64 (k : Int))] [mapItem strKey r3 (namN d.list k : List (ByteArray × Int)), blk b2 (.cells (d.cells a) 44 (0, 0)), blk b1 (.cells #[.slice p ns.length cap, .int .u32 gen] 25 (0, 0)), base w (Low w)] _
  have hnr := namN_range d.list k (en d.list k).name
  have hll := hWd.list
  have hen := hWd.entry k
  have hn1 := hen.node0
  have hn2 := hen.node1
  refine Ev.sr 1 ?_
  refine Rg.p 18 (.binOp .lss 3 (.tmp 17) (.tmp 16) 3) (pv_lss rfl rfl) ?_
  refine Rg.nx (fun _ _ h => h) [18,17,16,15,6,5,4,3,2] rfl ?_
  refine Ev.sq ?_
  refine Ev.cd 18 rfl (fun h4 => ?_) (fun h4 => ?_)
  ·
   have h5 := of_decide_eq_true h4
   refine Ev.sk ?_
   refine At.nx (fun _ _ h => h) [18,17,16,15,6,5,4,3,2] rfl ?_
   refine Ev.sq ?_
   refine Ev.bk 1 ?_
   refine Ev.sr 4 ?_
   have ⟨q4, o5, hp6⟩ := (hD).list.adr (by omega)
   refine Rg.p 19 (.indexAddr 42 (.tmp 15) (.tmp 17)) (v := .pointer (some ⟨q4, o5 + ((k : Int)).toNat * 3, none⟩)) (pv_indexAddr' rfl hp6 rfl (e := 50) (sz := 3) (by kernel_rfl) (by omega) (by omega)) ?_
   refine Rg.p 20 (.load 50 (.tmp 19)) (v := .agg #[.string ((en d.list k).name), .int .i64 ((en d.list k).node), .int .u64 ((en d.list k).cookie)]) (pv_load_entry (i := ((k : Int)).toNat) (es := d.list) rfl hp6 (by omega) (by kernel_rfl) (by kernel_rfl) (fun w hw => (((hD).list).keep (hw.at_ 3 rfl) (fun k hk => hw.lt 3 rfl hk)))) ?_
   refine Rg.al 8 50 (.agg #[.string ⟨#[]⟩, .int .i64 0, .int .u64 0]) fun b7 => ?_
   refine Rg.st 50 8 (.tmp 20) 0 #[.string ((en d.list k).name), .int .i64 ((en d.list k).node), .int .u64 ((en d.list k).cookie)] rfl rfl rfl ?_
   refine Rg.nx (fun _ _ h => h) [20,19,18,17,16,15,8,6,5,4,3,2] rfl ?_
   refine Ev.sr 6 ?_
   refine Rg.mv 21 6 rfl ?_
   refine Rg.fa 22 50 8 0 0 rfl ?_
   refine Rg.ld 23 9 22 0 rfl rfl rfl ?_
   refine Rg.p 24 (.lookup 28 (.tmp 21) (.tmp 23) false) (v := .int .i64 ((look (namN d.list k : List (ByteArray × Int)) ((en d.list k).name)).getD 0)) (pv_lookup (kt := 9) (et := 3) strKey 1 rfl rfl (by kernel_rfl) (by kernel_rfl) (by kernel_rfl) rfl) ?_
   refine Rg.p 25 (.binOp .add 3 (.tmp 24) (.const (.int .i64 1)) 3) (pv_addb rfl rfl (in_i64 (by omega) (by omega))) ?_
   refine rg_mapUpdate (t := 28) (x := .tmp 21) (y := .tmp 23) (z := .tmp 25) (kt := 9) (et := 3) (g := none) strKey 1 (by kernel_rfl) (by kernel_rfl) rfl rfl rfl (by kernel_rfl) (by kernel_rfl) rfl ?_
   refine Rg.nx (fun _ _ h => h) [25,24,23,22,21,20,19,18,17,16,15,8,6,5,4,3,2] rfl ?_
   refine Ev.sq ?_
   refine Ev.sr 46 ?_
   refine Rg.fa 26 50 8 2 2 rfl ?_
   refine Rg.ld 27 34 26 0 rfl rfl rfl ?_
   refine Rg.mv 28 5 rfl ?_
   refine Rg.p 29 (.binOp .leq 34 (.tmp 27) (.tmp 28) 34) (pv_leq rfl rfl) ?_
   refine Rg.mv 30 29 rfl ?_
   refine Rg.go 11 36 30 (decide (d.next ≤ ((en d.list k).cookie))) rfl (fun h6 => ?_) (fun h6 => ?_) ?_
   ·
    refine Rg.skips 10 (by kernel_rfl) ?_
    refine Rg.p 36 (.pick (.tmp 30) (.const (.bool true)) (.tmp 35)) (pv_pick_t rfl rfl) ?_
    exact Rg.em 30 h6 (ot_t h6) rfl rfl
   ·
    have h7 := of_decide_eq_false h6
    refine Rg.pg 4 false 31 (.fieldAddr 50 (.tmp 8) 2) (pv_fieldAddr rfl (n := 2) (by kernel_rfl)) ?_
    refine Rg.pg 4 false 32 (.load 34 (.tmp 31)) (v := .int .u64 ((en d.list k).cookie)) (pv_load_blk 0 rfl rfl (by kernel_rfl) rfl) ?_
    refine Rg.pg 4 false 33 (.fieldAddr 44 (.tmp 3) 14) (pv_fieldAddr rfl (n := 24) (by kernel_rfl)) ?_
    refine Rg.pg 4 false 34 (.load 34 (.tmp 33)) (v := .int .u64 d.next) (pv_load_blk 2 rfl rfl (by kernel_rfl) rfl) ?_
    refine Rg.pg 4 false 35 (.binOp .geq 34 (.tmp 32) (.tmp 34) 34) (pv_geq rfl rfl) ?_
    refine Rg.p 36 (.pick (.tmp 30) (.const (.bool true)) (.tmp 35)) (pv_pick_f rfl rfl) ?_
    exact Rg.em 30 h6 (ot_f h6) rfl rfl
   refine Rg.mv 37 36 rfl ?_
   refine Rg.go 18 43 37 (decide (1 < ((look (upd (namN d.list k) ((en d.list k).name) (((look (namN d.list k : List (ByteArray × Int)) ((en d.list k).name)).getD 0) + 1) : List (ByteArray × Int)) ((en d.list k).name)).getD 0))) rfl (fun h8 => ?_) (fun h8 => ?_) ?_
   ·
    refine Rg.skips 17 (by kernel_rfl) ?_
    refine Rg.p 43 (.pick (.tmp 37) (.const (.bool true)) (.tmp 42)) (pv_pick_t rfl rfl) ?_
    exact Rg.em 37 h8 (ot_t h8) rfl rfl
   ·
    have ⟨h9, h10⟩ := or_f h8
    have h11 := of_decide_eq_false h9
    have h12 := of_decide_eq_false h10
    refine Rg.pg 11 false 38 (.move (.tmp 6)) (pv_move rfl) ?_
    refine Rg.pg 11 false 39 (.fieldAddr 50 (.tmp 8) 0) (pv_fieldAddr rfl (n := 0) (by kernel_rfl)) ?_
    refine Rg.pg 11 false 40 (.load 9 (.tmp 39)) (v := .string ((en d.list k).name)) (pv_load_blk 0 rfl rfl (by kernel_rfl) rfl) ?_
    refine Rg.pg 11 false 41 (.lookup 28 (.tmp 38) (.tmp 40) false) (v := .int .i64 ((look (upd (namN d.list k) ((en d.list k).name) (((look (namN d.list k : List (ByteArray × Int)) ((en d.list k).name)).getD 0) + 1) : List (ByteArray × Int)) ((en d.list k).name)).getD 0)) (pv_lookup (kt := 9) (et := 3) strKey 1 rfl rfl (by kernel_rfl) (by kernel_rfl) (by kernel_rfl) rfl) ?_
    refine Rg.pg 11 false 42 (.binOp .gtr 3 (.tmp 41) (.const (.int .i64 1)) 3) (pv_gtr rfl rfl) ?_
    refine Rg.p 43 (.pick (.tmp 37) (.const (.bool true)) (.tmp 42)) (pv_pick_f rfl rfl) ?_
    exact Rg.em 37 h8 (ot_f h8) rfl rfl
   refine Rg.mv 44 43 rfl ?_
   refine Rg.go 24 49 44 (!(decide ((nameS ((en d.list k).name)) = 0))) rfl (fun h13 => ?_) (fun h13 => ?_) ?_
   ·
    refine Rg.skips 23 (by kernel_rfl) ?_
    refine Rg.p 49 (.pick (.tmp 44) (.const (.bool true)) (.tmp 48)) (pv_pick_t rfl rfl) ?_
    exact Rg.em 44 h13 (ot_t h13) rfl rfl
   ·
    have ⟨h14, h15⟩ := or_f h13
    have ⟨h16, h17⟩ := or_f h14
    have h18 := of_decide_eq_false h16
    have h19 := of_decide_eq_false h17
    have h20 := of_decide_eq_false h15
    refine Rg.pg 18 false 45 (.fieldAddr 50 (.tmp 8) 0) (pv_fieldAddr rfl (n := 0) (by kernel_rfl)) ?_
    refine Rg.pg 18 false 46 (.load 9 (.tmp 45)) (v := .string ((en d.list k).name)) (pv_load_blk 0 rfl rfl (by kernel_rfl) rfl) ?_
    refine rg_call (d := some 47) (f := 113) (xs := #[.tmp 46]) (ts := #[9]) (g := some (18, false)) (v := .int .u32 (nameS ((en d.list k).name))) (by kernel_rfl) (by kernel_rfl) (by kernel_rfl) rfl (fun w hw => Name_calls ((hWd.entry _).name)) ?_
    refine Rg.pg 18 false 48 (.binOp .neq 45 (.tmp 47) (.const (.int .u32 0)) 45) (pv_neq rfl rfl) ?_
    refine Rg.p 49 (.pick (.tmp 44) (.const (.bool true)) (.tmp 48)) (pv_pick_f rfl rfl) ?_
    exact Rg.em 44 h13 (ot_f h13) rfl rfl
   refine Rg.mv 50 49 rfl ?_
   refine Rg.go 29 54 50 (decide (((en d.list k).name) = ⟨#[46]⟩)) rfl (fun h21 => ?_) (fun h21 => ?_) ?_
   ·
    refine Rg.skips 28 (by kernel_rfl) ?_
    refine Rg.p 54 (.pick (.tmp 50) (.const (.bool true)) (.tmp 53)) (pv_pick_t rfl rfl) ?_
    exact Rg.em 50 h21 (ot_t h21) rfl rfl
   ·
    have ⟨h22, h23⟩ := or_f h21
    have ⟨h24, h25⟩ := or_f h22
    have ⟨h26, h27⟩ := or_f h24
    have h28 := of_decide_eq_false h26
    have h29 := of_decide_eq_false h27
    have h30 := of_decide_eq_false h25
    have h31 := of_decide_eq_true (not_f h23)
    refine Rg.pg 24 false 51 (.fieldAddr 50 (.tmp 8) 0) (pv_fieldAddr rfl (n := 0) (by kernel_rfl)) ?_
    refine Rg.pg 24 false 52 (.load 9 (.tmp 51)) (v := .string ((en d.list k).name)) (pv_load_blk 0 rfl rfl (by kernel_rfl) rfl) ?_
    refine Rg.pg 24 false 53 (.binOp .eql 9 (.tmp 52) (.const (.string ⟨#[46]⟩)) 9) (pv_eql_str rfl rfl) ?_
    refine Rg.p 54 (.pick (.tmp 50) (.const (.bool true)) (.tmp 53)) (pv_pick_f rfl rfl) ?_
    exact Rg.em 50 h21 (ot_f h21) rfl rfl
   refine Rg.mv 55 54 rfl ?_
   refine Rg.go 34 59 55 (decide (((en d.list k).name) = ⟨#[46, 46]⟩)) rfl (fun h32 => ?_) (fun h32 => ?_) ?_
   ·
    refine Rg.skips 33 (by kernel_rfl) ?_
    refine Rg.p 59 (.pick (.tmp 55) (.const (.bool true)) (.tmp 58)) (pv_pick_t rfl rfl) ?_
    exact Rg.em 55 h32 (ot_t h32) rfl rfl
   ·
    have ⟨h33, h34⟩ := or_f h32
    have ⟨h35, h36⟩ := or_f h33
    have ⟨h37, h38⟩ := or_f h35
    have ⟨h39, h40⟩ := or_f h37
    have h41 := of_decide_eq_false h39
    have h42 := of_decide_eq_false h40
    have h43 := of_decide_eq_false h38
    have h44 := of_decide_eq_true (not_f h36)
    have h45 := of_decide_eq_false h34
    refine Rg.pg 29 false 56 (.fieldAddr 50 (.tmp 8) 0) (pv_fieldAddr rfl (n := 0) (by kernel_rfl)) ?_
    refine Rg.pg 29 false 57 (.load 9 (.tmp 56)) (v := .string ((en d.list k).name)) (pv_load_blk 0 rfl rfl (by kernel_rfl) rfl) ?_
    refine Rg.pg 29 false 58 (.binOp .eql 9 (.tmp 57) (.const (.string ⟨#[46, 46]⟩)) 9) (pv_eql_str rfl rfl) ?_
    refine Rg.p 59 (.pick (.tmp 55) (.const (.bool true)) (.tmp 58)) (pv_pick_f rfl rfl) ?_
    exact Rg.em 55 h32 (ot_f h32) rfl rfl
   refine Rg.mv 60 59 rfl ?_
   refine Rg.go 39 64 60 (decide (((en d.list k).node) = 1)) rfl (fun h46 => ?_) (fun h46 => ?_) ?_
   ·
    refine Rg.skips 38 (by kernel_rfl) ?_
    refine Rg.p 64 (.pick (.tmp 60) (.const (.bool true)) (.tmp 63)) (pv_pick_t rfl rfl) ?_
    exact Rg.em 60 h46 (ot_t h46) rfl rfl
   ·
    have ⟨h47, h48⟩ := or_f h46
    have ⟨h49, h50⟩ := or_f h47
    have ⟨h51, h52⟩ := or_f h49
    have ⟨h53, h54⟩ := or_f h51
    have ⟨h55, h56⟩ := or_f h53
    have h57 := of_decide_eq_false h55
    have h58 := of_decide_eq_false h56
    have h59 := of_decide_eq_false h54
    have h60 := of_decide_eq_true (not_f h52)
    have h61 := of_decide_eq_false h50
    have h62 := of_decide_eq_false h48
    refine Rg.pg 34 false 61 (.fieldAddr 50 (.tmp 8) 1) (pv_fieldAddr rfl (n := 1) (by kernel_rfl)) ?_
    refine Rg.pg 34 false 62 (.load 3 (.tmp 61)) (v := .int .i64 ((en d.list k).node)) (pv_load_blk 0 rfl rfl (by kernel_rfl) rfl) ?_
    refine Rg.pg 34 false 63 (.binOp .eql 3 (.tmp 62) (.const (.int .i64 1)) 3) (pv_eql rfl rfl) ?_
    refine Rg.p 64 (.pick (.tmp 60) (.const (.bool true)) (.tmp 63)) (pv_pick_f rfl rfl) ?_
    exact Rg.em 60 h46 (ot_f h46) rfl rfl
   refine Rg.mv 65 64 rfl ?_
   refine Rg.go 46 71 65 (!(thereS ns ((en d.list k).node))) rfl (fun h63 => ?_) (fun h63 => ?_) ?_
   ·
    refine Rg.skips 45 (by kernel_rfl) ?_
    refine Rg.p 71 (.pick (.tmp 65) (.const (.bool true)) (.tmp 70)) (pv_pick_t rfl rfl) ?_
    exact Rg.em 65 h63 (ot_t h63) rfl rfl
   ·
    have ⟨h64, h65⟩ := or_f h63
    have ⟨h66, h67⟩ := or_f h64
    have ⟨h68, h69⟩ := or_f h66
    have ⟨h70, h71⟩ := or_f h68
    have ⟨h72, h73⟩ := or_f h70
    have ⟨h74, h75⟩ := or_f h72
    have h76 := of_decide_eq_false h74
    have h77 := of_decide_eq_false h75
    have h78 := of_decide_eq_false h73
    have h79 := of_decide_eq_true (not_f h71)
    have h80 := of_decide_eq_false h69
    have h81 := of_decide_eq_false h67
    have h82 := of_decide_eq_false h65
    refine Rg.pg 39 false 66 (.load 25 (.tmp 2)) (v := .agg #[.slice p ns.length cap, .int .u32 gen]) (pv_load_blk_whole 3 rfl rfl (by kernel_rfl) (by kernel_rfl)) ?_
    refine Rg.pg 39 false 67 (.fieldAddr 50 (.tmp 8) 1) (pv_fieldAddr rfl (n := 1) (by kernel_rfl)) ?_
    refine Rg.pg 39 false 68 (.load 3 (.tmp 67)) (v := .int .i64 ((en d.list k).node)) (pv_load_blk 0 rfl rfl (by kernel_rfl) rfl) ?_
    refine rg_call (d := some 69) (f := 54) (xs := #[.tmp 66, .tmp 68]) (ts := #[25, 3]) (g := some (39, false)) (v := .bool (thereS ns ((en d.list k).node))) (by kernel_rfl) (by kernel_rfl) (by kernel_rfl) rfl (fun w hw => there_calls ((hT).keep (hw.at_ 4 rfl) (fun k hk => hw.lt 4 rfl hk))) ?_
    refine Rg.pg 39 false 70 (.unOp .not 4 (.tmp 69)) (pv_not (b := thereS ns ((en d.list k).node)) rfl) ?_
    refine Rg.p 71 (.pick (.tmp 65) (.const (.bool true)) (.tmp 70)) (pv_pick_f rfl rfl) ?_
    exact Rg.em 65 h63 (ot_f h63) rfl rfl
   refine Rg.nx (fun _ _ h => h) [71,65,64,60,59,55,54,50,49,44,43,37,36,30,29,28,27,26,25,24,23,22,21,20,19,18,17,16,15,8,6,5,4,3,2] rfl ?_
   refine Ev.cd 71 rfl (fun h83 => ?_) (fun h83 => ?_)
   ·
    refine Ev.sr 1 ?_
    refine Rg.ac 4 (.bool false) ?_
    refine Rg.nx (fun _ _ h => h) [71,65,64,60,59,55,54,50,49,44,43,37,36,30,29,28,27,26,25,24,23,22,21,20,19,18,17,16,15,8,6,5,4,3,2] rfl ?_
    refine Ev.rt ?_
    refine At.via (Q := Q) hQ ?_
    refine At.ret1 rfl rfl rfl ?_
    exact fun w hw => ⟨(by rw [entriesS_bad (k := k) (by omega) h83]), hw.base_below 4 rfl⟩
   ·
    have ⟨h84, h85⟩ := or_f h83
    have ⟨h86, h87⟩ := or_f h84
    have ⟨h88, h89⟩ := or_f h86
    have ⟨h90, h91⟩ := or_f h88
    have ⟨h92, h93⟩ := or_f h90
    have ⟨h94, h95⟩ := or_f h92
    have ⟨h96, h97⟩ := or_f h94
    have h98 := of_decide_eq_false h96
    have h99 := of_decide_eq_false h97
    have h100 := of_decide_eq_false h95
    have h101 := of_decide_eq_true (not_f h93)
    have h102 := of_decide_eq_false h91
    have h103 := of_decide_eq_false h89
    have h104 := of_decide_eq_false h87
    have h105 := not_f h85
    have ⟨h106, h107, h108⟩ := thereS_t h105
    refine Ev.sk ?_
    refine At.nx (fun _ _ h => h) [71,65,64,60,59,55,54,50,49,44,43,37,36,30,29,28,27,26,25,24,23,22,21,20,19,18,17,16,15,8,6,5,4,3,2] rfl ?_
    refine Ev.rg 3 ?_
    refine Rg.fa 72 50 8 2 2 rfl ?_
    refine Rg.ld 73 34 72 0 rfl rfl rfl ?_
    refine Rg.as 5 73 rfl ?_
    refine Rg.nx (fun _ _ h => h) [73,72,71,65,64,60,59,55,54,50,49,44,43,37,36,30,29,28,27,26,25,24,23,22,21,20,19,18,17,16,15,8,6,5,4,3,2] rfl ?_
    refine Ev.rg 2 ?_
    refine Rg.p 74 (.binOp .add 3 (.tmp 17) (.const (.int .i64 1)) 3) (pv_addb rfl rfl (in_i64 (by omega) (by omega))) ?_
    refine Rg.mv 17 74 rfl ?_
    refine Rg.fin rfl ?_
    refine At.round (fun _ _ h => h) (k + 1) [1, 2, 3, 4] ⟨(by omega), (fun m hm => by rcases Nat.lt_succ_iff_lt_or_eq.1 hm with h1_ | h1_; exact hno m h1_; subst h1_; exact h83)⟩ (by show d.list.length - (k + 1) < d.list.length - k; omega) (.cons (rfl) (.cons (rfl) (.cons (rfl) (.cons (rfl) (.cons (rfl) (.cons (rfl) (.cons (rfl) (.cons (rfl) (.nil _))))))))) rfl (by decide)
  ·
   have h109 := of_decide_eq_false h4
   refine Ev.xt 0 ?_
   refine At.nx (fun _ _ h => h) [5,4,3] rfl ?_
   refine Ev.sr 5 ?_
   refine Rg.fa 75 44 3 14 24 rfl ?_
   refine Rg.ld 76 34 75 1 rfl rfl rfl ?_
   refine Rg.mv 77 5 rfl ?_
   refine Rg.p 78 (.binOp .gtr 34 (.tmp 76) (.tmp 77) 34) (pv_gtr rfl rfl) ?_
   refine Rg.as 4 78 rfl ?_
   refine Rg.nx (fun _ _ h => h) [4] rfl ?_
   refine Ev.rt ?_
   refine At.via (Q := Q) hQ ?_
   refine At.ret1 rfl rfl rfl ?_
   exact fun w hw => ⟨(by rw [entriesS_good h1 (fun m hm => hno m (by omega)), show k = d.list.length by omega]), hw.base_below 3 rfl⟩

end Go.Proofs.Ytfhhggcdmgjbcaa.Sx
