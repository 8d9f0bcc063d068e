/-
  A part of the walk of the seat: laws of a small proof system, and contracts of functions, each proved. Conditions: as each theorem says.
-/
import Derived.Test.YtfhhggcdmgjbcaaProg
import Derived.Test.YtfhhggcdmgjbcaaSxCsl
namespace Go.Proofs.Ytfhhggcdmgjbcaa.Sx
open Go Go.RowKit Go.Proofs

def thereS (ns : List Node) (n : Int) : Bool := (decide (0 < n) && decide (n < (ns.length : Int))) && !decide ((nd ns n.toNat).kind = 0)
set_option maxHeartbeats 8000000 in
theorem there_calls {p : Option Addr} {ns : List Node} {al : List Loc} {cap : Nat} {gen : Int} {n : Int} {w : World} (hT : NodesAt (Low w) w p ns al) :
  Calls Try.prog 54 #[.agg #[.slice p ns.length cap, .int .u32 gen], .int .i64 n] w (Ret w (.bool (thereS ns n))) := by
 refine calls_ofQ (args := [_, _]) [base w (Low w)] Try.func54 (by kernel_rfl) (by kernel_rfl) (Heap.start w) ?_
 intro Q hQ
 refine Ev.sr 2 ?_
 refine Rg.bx 2 25 (.tmp 0) rfl fun b1 => ?_
 refine Rg.ac 4 (.bool false) ?_
 refine Rg.nx (fun _ _ h => h) [4,2,1] rfl ?_
 refine Ev.sr 19 ?_
 refine Rg.mv 5 1 rfl ?_
 refine Rg.p 6 (.binOp .gtr 3 (.tmp 5) (.const (.int .i64 0)) 3) (pv_gtr rfl rfl) ?_
 refine Rg.mv 7 6 rfl ?_
 refine Rg.ga 9 13 7 (decide (n < (ns.length : Int))) rfl (fun h1 => ?_) (fun h1 => ?_) ?_
 ·
  have h2 := of_decide_eq_true h1
  refine Rg.pg 2 true 8 (.move (.tmp 1)) (pv_move rfl) ?_
  refine Rg.pg 2 true 9 (.fieldAddr 25 (.tmp 2) 0) (pv_fieldAddr rfl (n := 0) (by kernel_rfl)) ?_
  refine Rg.pg 2 true 10 (.load 22 (.tmp 9)) (v := .slice p ns.length cap) (pv_load_blk 0 rfl rfl (by kernel_rfl) rfl) ?_
  refine Rg.pg 2 true 11 (.call { callee := .builtin .len, args := #[.tmp 10], argTypes := #[22] }) (pv_len_slice rfl (by kernel_rfl)) ?_
  refine Rg.pg 2 true 12 (.binOp .lss 3 (.tmp 8) (.tmp 11) 3) (pv_lss rfl rfl) ?_
  refine Rg.p 13 (.pick (.tmp 7) (.tmp 12) (.const (.bool false))) (pv_pick_t rfl rfl) ?_
  exact Rg.em 7 h1 (at_t h1) rfl rfl
 ·
  refine Rg.skips 8 (by kernel_rfl) ?_
  refine Rg.p 13 (.pick (.tmp 7) (.tmp 12) (.const (.bool false))) (pv_pick_f rfl rfl) ?_
  exact Rg.em 7 h1 (at_f h1) rfl rfl
 refine Rg.mv 14 13 rfl ?_
 refine Rg.ga 18 22 14 (!(decide (((nd ns ((n).toNat)).kind) = 0))) rfl (fun h3 => ?_) (fun h3 => ?_) ?_
 ·
  have ⟨h4, h5⟩ := and_t h3
  have h6 := of_decide_eq_true h4
  have h7 := of_decide_eq_true h5
  refine Rg.pg 9 true 15 (.fieldAddr 25 (.tmp 2) 0) (pv_fieldAddr rfl (n := 0) (by kernel_rfl)) ?_
  refine Rg.pg 9 true 16 (.load 22 (.tmp 15)) (v := .slice p ns.length cap) (pv_load_blk 0 rfl rfl (by kernel_rfl) rfl) ?_
  refine Rg.pg 9 true 17 (.move (.tmp 1)) (pv_move rfl) ?_
  have ⟨q2, o3, hp4⟩ := hT.rows.adr (by omega)
  refine Rg.pg 9 true 18 (.indexAddr 22 (.tmp 16) (.tmp 17)) (v := .pointer (some ⟨q2, o3 + (n).toNat * 25, none⟩)) (pv_indexAddr' rfl hp4 rfl (e := 44) (sz := 25) (by kernel_rfl) (by omega) (by omega)) ?_
  refine Rg.pg 9 true 19 (.fieldAddr 44 (.tmp 18) 0) (pv_fieldAddr rfl (n := 0) (by kernel_rfl)) ?_
  refine Rg.pg 9 true 20 (.load 33 (.tmp 19)) (v := .int .u32 ((nd ns ((n).toNat)).kind)) (pv_load rfl (by kernel_rfl) (fun w hw => ((hT).keep (hw.at_ 1 rfl) (fun _ h => h)).rows.cell _ _ hp4 _ (by omega) 0 (by decide))) ?_
  refine Rg.pg 9 true 21 (.binOp .neq 33 (.tmp 20) (.const (.int .u32 0)) 33) (pv_neq rfl rfl) ?_
  refine Rg.p 22 (.pick (.tmp 14) (.tmp 21) (.const (.bool false))) (pv_pick_t rfl rfl) ?_
  exact Rg.em 14 h3 (at_t h3) rfl rfl
 ·
  refine Rg.skips 17 (by kernel_rfl) ?_
  refine Rg.p 22 (.pick (.tmp 14) (.tmp 21) (.const (.bool false))) (pv_pick_f rfl rfl) ?_
  exact Rg.em 14 h3 (at_f h3) rfl rfl
 refine Rg.as 4 22 rfl ?_
 refine Rg.nx (fun _ _ h => h) [4] rfl ?_
 refine Ev.rt ?_
 refine At.via (Q := Q) hQ ?_
 refine At.ret1 rfl rfl rfl ?_
 exact fun w hw => ⟨rfl, hw.base_below 1 rfl⟩

theorem thereS_t {ns : List Node} {n : Int} (h : thereS ns n = true) : 0 < n ∧ n < (ns.length : Int) ∧ (nd ns n.toNat).kind ≠ 0 := by
  unfold thereS at h
  simpa [and_assoc] using h

def isS (ns : List Node) (n k : Int) : Bool := thereS ns n && decide ((nd ns n.toNat).kind = k)
set_option maxHeartbeats 8000000 in
theorem is_calls {p : Option Addr} {ns : List Node} {al : List Loc} {cap : Nat} {gen : Int} {n k : Int} {w : World} (hT : NodesAt (Low w) w p ns al) :
  Calls Try.prog 53 #[.agg #[.slice p ns.length cap, .int .u32 gen], .int .i64 n, .int .u32 k] w (Ret w (.bool (isS ns n k))) := by
 refine calls_ofQ (args := [_, _, _]) [base w (Low w)] Try.func53 (by kernel_rfl) (by kernel_rfl) (Heap.start w) ?_
 intro Q hQ
 refine Ev.sr 2 ?_
 refine Rg.bx 3 25 (.tmp 0) rfl fun b1 => ?_
 refine Rg.ac 6 (.bool false) ?_
 refine Rg.nx (fun _ _ h => h) [6,3,2,1] rfl ?_
 refine Ev.sr 14 ?_
 refine Rg.p 7 (.load 25 (.tmp 3)) (v := .agg #[.slice p ns.length cap, .int .u32 gen]) (pv_load_blk_whole 0 rfl rfl (by kernel_rfl) (by kernel_rfl)) ?_
 refine Rg.mv 8 1 rfl ?_
 refine Rg.cl (some 9) 54 #[.tmp 7, .tmp 8] #[25, 3] (v := .bool (thereS ns n)) rfl (fun w hw => there_calls ((hT).keep (hw.at_ 1 rfl) (fun k hk => hw.lt 1 rfl hk))) ?_
 refine Rg.mv 10 9 rfl ?_
 refine Rg.ga 13 19 10 (decide (((nd ns ((n).toNat)).kind) = k)) rfl (fun h1 => ?_) (fun h1 => ?_) ?_
 ·
  have ⟨h2, h3, h4⟩ := thereS_t h1
  refine Rg.pg 3 true 11 (.fieldAddr 25 (.tmp 3) 0) (pv_fieldAddr rfl (n := 0) (by kernel_rfl)) ?_
  refine Rg.pg 3 true 12 (.load 22 (.tmp 11)) (v := .slice p ns.length cap) (pv_load_blk 0 rfl rfl (by kernel_rfl) rfl) ?_
  refine Rg.pg 3 true 13 (.move (.tmp 1)) (pv_move rfl) ?_
  have ⟨q2, o3, hp4⟩ := hT.rows.adr (by omega)
  refine Rg.pg 3 true 14 (.indexAddr 22 (.tmp 12) (.tmp 13)) (v := .pointer (some ⟨q2, o3 + (n).toNat * 25, none⟩)) (pv_indexAddr' rfl hp4 rfl (e := 44) (sz := 25) (by kernel_rfl) (by omega) (by omega)) ?_
  refine Rg.pg 3 true 15 (.fieldAddr 44 (.tmp 14) 0) (pv_fieldAddr rfl (n := 0) (by kernel_rfl)) ?_
  refine Rg.pg 3 true 16 (.load 33 (.tmp 15)) (v := .int .u32 ((nd ns ((n).toNat)).kind)) (pv_load rfl (by kernel_rfl) (fun w hw => ((hT).keep (hw.at_ 1 rfl) (fun _ h => h)).rows.cell _ _ hp4 _ (by omega) 0 (by decide))) ?_
  refine Rg.pg 3 true 17 (.move (.tmp 2)) (pv_move rfl) ?_
  refine Rg.pg 3 true 18 (.binOp .eql 33 (.tmp 16) (.tmp 17) 33) (pv_eql rfl rfl) ?_
  refine Rg.p 19 (.pick (.tmp 10) (.tmp 18) (.const (.bool false))) (pv_pick_t rfl rfl) ?_
  exact Rg.em 10 h1 (at_t h1) rfl rfl
 ·
  refine Rg.skips 12 (by kernel_rfl) ?_
  refine Rg.p 19 (.pick (.tmp 10) (.tmp 18) (.const (.bool false))) (pv_pick_f rfl rfl) ?_
  exact Rg.em 10 h1 (at_f h1) rfl rfl
 refine Rg.as 6 19 rfl ?_
 refine Rg.nx (fun _ _ h => h) [6] rfl ?_
 refine Ev.rt ?_
 refine At.via (Q := Q) hQ ?_
 refine At.ret1 rfl rfl rfl ?_
 exact fun w hw => ⟨rfl, hw.base_below 1 rfl⟩

theorem isS_t {ns : List Node} {n k : Int} (h : isS ns n k = true) : 0 < n ∧ n < (ns.length : Int) ∧ (nd ns n.toNat).kind ≠ 0 ∧ (nd ns n.toNat).kind = k := by
  unfold isS at h
  have ⟨h1, h2⟩ := and_t h
  have ⟨a, b, c⟩ := thereS_t h1
  exact ⟨a, b, c, of_decide_eq_true h2⟩

set_option maxHeartbeats 8000000 in
theorem timesCheck_calls {a b : Int} {w : World} :
  Calls Try.prog 59 #[.agg #[.int .u32 a, .int .u32 b]] w (Ret w (.bool (decide (b < 1000000000)))) := by
 refine calls_ofQ (args := [_]) [base w (Low w)] Try.func59 (by kernel_rfl) (by kernel_rfl) (Heap.start w) ?_
 intro Q hQ
 refine Ev.sr 2 ?_
 refine Rg.bx 1 36 (.tmp 0) rfl fun b1 => ?_
 refine Rg.ac 2 (.bool false) ?_
 refine Rg.nx (fun _ _ h => h) [2,1] rfl ?_
 refine Ev.sr 4 ?_
 refine Rg.fa 3 36 1 1 1 rfl ?_
 refine Rg.ld 4 23 3 0 rfl rfl rfl ?_
 refine Rg.p 5 (.binOp .lss 23 (.tmp 4) (.const (.int .u32 1000000000)) 23) (pv_lss rfl rfl) ?_
 refine Rg.as 2 5 rfl ?_
 refine Rg.nx (fun _ _ h => h) [2] rfl ?_
 refine Ev.rt ?_
 refine At.via (Q := Q) hQ ?_
 refine At.ret1 rfl rfl rfl ?_
 exact fun w hw => ⟨rfl, hw.base_below 1 rfl⟩

end Go.Proofs.Ytfhhggcdmgjbcaa.Sx
