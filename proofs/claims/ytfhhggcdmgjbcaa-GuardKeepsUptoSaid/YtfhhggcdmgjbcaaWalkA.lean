/-
  A part of the walk of the seat: laws of a small proof system, and contracts of functions, each proved. Conditions: as each theorem says.
-/
import Derived.Test.YtfhhggcdmgjbcaaProg
import Derived.Test.YtfhhggcdmgjbcaaCoreB
namespace Go.Proofs.Ytfhhggcdmgjbcaa.Sx
open Go Go.RowKit Go.Proofs

def thereS (ns : List Node) (n : Int) : Bool := (decide (0 < n) && decide (n < (ns.length : Int))) && !decide ((nd ns n.toNat).kind = 0)
set_option maxHeartbeats 8000000 in
theorem there_calls {p : Option Addr} {ns : List Node} {al : List Loc} {cap : Nat} {gen : Int} {n : Int} {w : World} (hT : NodesAt (Low w) w p ns al) :
  Calls Try.prog 54 #[.agg #[.slice p ns.length cap, .int .u32 gen], .int .i64 n] w (Ret w (.bool (thereS ns n))) := by
 refine calls_ofQ (args := [_, _]) [base w (Low w)] Try.func54 (by kernel_rfl) (by kernel_rfl) (Heap.start w) ?_
 intro Q hQ
 refine Ev.sr 2 ?_
 refine Rg.bx 2 25 (.tmp 0) rfl fun b1 => ?_
 refine Rg.ac 4 (.bool false) ?_
 refine Rg.nx (fun _ _ h => h) [4,2,1] rfl ?_
 refine Ev.sr 19 ?_
 refine Rg.mv 5 1 rfl ?_
 refine Rg.p 6 (.binOp .gtr 3 (.tmp 5) (.const (.int .i64 0)) 3) (pv_gtr rfl rfl) ?_
 refine Rg.mv 7 6 rfl ?_
 refine Rg.ga 9 13 7 (decide (n < (ns.length : Int))) rfl (fun h1 => ?_) (fun h1 => ?_) ?_
 ·
  have h2 := of_decide_eq_true h1
  refine Rg.pg 2 true 8 (.move (.tmp 1)) (pv_move rfl) ?_
  refine Rg.pg 2 true 9 (.fieldAddr 25 (.tmp 2) 0) (pv_fieldAddr rfl (n := 0) (by kernel_rfl)) ?_
  refine Rg.pg 2 true 10 (.load 22 (.tmp 9)) (v := .slice p ns.length cap) (pv_load_blk 0 rfl rfl (by kernel_rfl) rfl) ?_
  refine Rg.pg 2 true 11 (.call { callee := .builtin .len, args := #[.tmp 10], argTypes := #[22] }) (pv_len_slice rfl (by kernel_rfl)) ?_
  refine Rg.pg 2 true 12 (.binOp .lss 3 (.tmp 8) (.tmp 11) 3) (pv_lss rfl rfl) ?_
  refine Rg.p 13 (.pick (.tmp 7) (.tmp 12) (.const (.bool false))) (pv_pick_t rfl rfl) ?_
  exact Rg.em 7 h1 (at_t h1) rfl rfl
 ·
  refine Rg.skips 8 (by kernel_rfl) ?_
  refine Rg.p 13 (.pick (.tmp 7) (.tmp 12) (.const (.bool false))) (pv_pick_f rfl rfl) ?_
  exact Rg.em 7 h1 (at_f h1) rfl rfl
 refine Rg.mv 14 13 rfl ?_
 refine Rg.ga 18 22 14 (!(decide (((nd ns ((n).toNat)).kind) = 0))) rfl (fun h3 => ?_) (fun h3 => ?_) ?_
 ·
  have ⟨h4, h5⟩ := and_t h3
  have h6 := of_decide_eq_true h4
  have h7 := of_decide_eq_true h5
  refine Rg.pg 9 true 15 (.fieldAddr 25 (.tmp 2) 0) (pv_fieldAddr rfl (n := 0) (by kernel_rfl)) ?_
  refine Rg.pg 9 true 16 (.load 22 (.tmp 15)) (v := .slice p ns.length cap) (pv_load_blk 0 rfl rfl (by kernel_rfl) rfl) ?_
  refine Rg.pg 9 true 17 (.move (.tmp 1)) (pv_move rfl) ?_
  have ⟨q2, o3, hp4⟩ := hT.rows.adr (by omega)
  refine Rg.pg 9 true 18 (.indexAddr 22 (.tmp 16) (.tmp 17)) (v := .pointer (some ⟨q2, o3 + (n).toNat * 25, none⟩)) (pv_indexAddr' rfl hp4 rfl (e := 44) (sz := 25) (by kernel_rfl) (by omega) (by omega)) ?_
  refine Rg.pg 9 true 19 (.fieldAddr 44 (.tmp 18) 0) (pv_fieldAddr rfl (n := 0) (by kernel_rfl)) ?_
  refine Rg.pg 9 true 20 (.load 33 (.tmp 19)) (v := .int .u32 ((nd ns ((n).toNat)).kind)) (pv_load rfl (by kernel_rfl) (fun w hw => ((hT).keep (hw.at_ 1 rfl) (fun _ h => h)).rows.cell _ _ hp4 _ (by omega) 0 (by decide))) ?_
  refine Rg.pg 9 true 21 (.binOp .neq 33 (.tmp 20) (.const (.int .u32 0)) 33) (pv_neq rfl rfl) ?_
  refine Rg.p 22 (.pick (.tmp 14) (.tmp 21) (.const (.bool false))) (pv_pick_t rfl rfl) ?_
  exact Rg.em 14 h3 (at_t h3) rfl rfl
 ·
  refine Rg.skips 17 (by kernel_rfl) ?_
  refine Rg.p 22 (.pick (.tmp 14) (.tmp 21) (.const (.bool false))) (pv_pick_f rfl rfl) ?_
  exact Rg.em 14 h3 (at_f h3) rfl rfl
 refine Rg.as 4 22 rfl ?_
 refine Rg.nx (fun _ _ h => h) [4] rfl ?_
 refine Ev.rt ?_
 refine At.via (Q := Q) hQ ?_
 refine At.ret1 rfl rfl rfl ?_
 exact fun w hw => ⟨rfl, hw.base_below 1 rfl⟩

theorem thereS_t {ns : List Node} {n : Int} (h : thereS ns n = true) : 0 < n ∧ n < (ns.length : Int) ∧ (nd ns n.toNat).kind ≠ 0 := by
  unfold thereS at h
  simpa [and_assoc] using h

def isS (ns : List Node) (n k : Int) : Bool := thereS ns n && decide ((nd ns n.toNat).kind = k)
set_option maxHeartbeats 8000000 in
theorem is_calls {p : Option Addr} {ns : List Node} {al : List Loc} {cap : Nat} {gen : Int} {n k : Int} {w : World} (hT : NodesAt (Low w) w p ns al) :
  Calls Try.prog 53 #[.agg #[.slice p ns.length cap, .int .u32 gen], .int .i64 n, .int .u32 k] w (Ret w (.bool (isS ns n k))) := by
 refine calls_ofQ (args := [_, _, _]) [base w (Low w)] Try.func53 (by kernel_rfl) (by kernel_rfl) (Heap.start w) ?_
 intro Q hQ
 refine Ev.sr 2 ?_
 refine Rg.bx 3 25 (.tmp 0) rfl fun b1 => ?_
 refine Rg.ac 6 (.bool false) ?_
 refine Rg.nx (fun _ _ h => h) [6,3,2,1] rfl ?_
 refine Ev.sr 14 ?_
 refine Rg.p 7 (.load 25 (.tmp 3)) (v := .agg #[.slice p ns.length cap, .int .u32 gen]) (pv_load_blk_whole 0 rfl rfl (by kernel_rfl) (by kernel_rfl)) ?_
 refine Rg.mv 8 1 rfl ?_
 refine Rg.cl (some 9) 54 #[.tmp 7, .tmp 8] #[25, 3] (v := .bool (thereS ns n)) rfl (fun w hw => there_calls ((hT).keep (hw.at_ 1 rfl) (fun k hk => hw.lt 1 rfl hk))) ?_
 refine Rg.mv 10 9 rfl ?_
 refine Rg.ga 13 19 10 (decide (((nd ns ((n).toNat)).kind) = k)) rfl (fun h1 => ?_) (fun h1 => ?_) ?_
 ·
  have ⟨h2, h3, h4⟩ := thereS_t h1
  refine Rg.pg 3 true 11 (.fieldAddr 25 (.tmp 3) 0) (pv_fieldAddr rfl (n := 0) (by kernel_rfl)) ?_
  refine Rg.pg 3 true 12 (.load 22 (.tmp 11)) (v := .slice p ns.length cap) (pv_load_blk 0 rfl rfl (by kernel_rfl) rfl) ?_
  refine Rg.pg 3 true 13 (.move (.tmp 1)) (pv_move rfl) ?_
  have ⟨q2, o3, hp4⟩ := hT.rows.adr (by omega)
  refine Rg.pg 3 true 14 (.indexAddr 22 (.tmp 12) (.tmp 13)) (v := .pointer (some ⟨q2, o3 + (n).toNat * 25, none⟩)) (pv_indexAddr' rfl hp4 rfl (e := 44) (sz := 25) (by kernel_rfl) (by omega) (by omega)) ?_
  refine Rg.pg 3 true 15 (.fieldAddr 44 (.tmp 14) 0) (pv_fieldAddr rfl (n := 0) (by kernel_rfl)) ?_
  refine Rg.pg 3 true 16 (.load 33 (.tmp 15)) (v := .int .u32 ((nd ns ((n).toNat)).kind)) (pv_load rfl (by kernel_rfl) (fun w hw => ((hT).keep (hw.at_ 1 rfl) (fun _ h => h)).rows.cell _ _ hp4 _ (by omega) 0 (by decide))) ?_
  refine Rg.pg 3 true 17 (.move (.tmp 2)) (pv_move rfl) ?_
  refine Rg.pg 3 true 18 (.binOp .eql 33 (.tmp 16) (.tmp 17) 33) (pv_eql rfl rfl) ?_
  refine Rg.p 19 (.pick (.tmp 10) (.tmp 18) (.const (.bool false))) (pv_pick_t rfl rfl) ?_
  exact Rg.em 10 h1 (at_t h1) rfl rfl
 ·
  refine Rg.skips 12 (by kernel_rfl) ?_
  refine Rg.p 19 (.pick (.tmp 10) (.tmp 18) (.const (.bool false))) (pv_pick_f rfl rfl) ?_
  exact Rg.em 10 h1 (at_f h1) rfl rfl
 refine Rg.as 6 19 rfl ?_
 refine Rg.nx (fun _ _ h => h) [6] rfl ?_
 refine Ev.rt ?_
 refine At.via (Q := Q) hQ ?_
 refine At.ret1 rfl rfl rfl ?_
 exact fun w hw => ⟨rfl, hw.base_below 1 rfl⟩

theorem isS_t {ns : List Node} {n k : Int} (h : isS ns n k = true) : 0 < n ∧ n < (ns.length : Int) ∧ (nd ns n.toNat).kind ≠ 0 ∧ (nd ns n.toNat).kind = k := by
  unfold isS at h
  have ⟨h1, h2⟩ := and_t h
  have ⟨a, b, c⟩ := thereS_t h1
  exact ⟨a, b, c, of_decide_eq_true h2⟩

set_option maxHeartbeats 8000000 in
theorem timesCheck_calls {a b : Int} {w : World} :
  Calls Try.prog 59 #[.agg #[.int .u32 a, .int .u32 b]] w (Ret w (.bool (decide (b < 1000000000)))) := by
 refine calls_ofQ (args := [_]) [base w (Low w)] Try.func59 (by kernel_rfl) (by kernel_rfl) (Heap.start w) ?_
 intro Q hQ
 refine Ev.sr 2 ?_
 refine Rg.bx 1 36 (.tmp 0) rfl fun b1 => ?_
 refine Rg.ac 2 (.bool false) ?_
 refine Rg.nx (fun _ _ h => h) [2,1] rfl ?_
 refine Ev.sr 4 ?_
 refine Rg.fa 3 36 1 1 1 rfl ?_
 refine Rg.ld 4 23 3 0 rfl rfl rfl ?_
 refine Rg.p 5 (.binOp .lss 23 (.tmp 4) (.const (.int .u32 1000000000)) 23) (pv_lss rfl rfl) ?_
 refine Rg.as 2 5 rfl ?_
 refine Rg.nx (fun _ _ h => h) [2] rfl ?_
 refine Ev.rt ?_
 refine At.via (Q := Q) hQ ?_
 refine At.ret1 rfl rfl rfl ?_
 exact fun w hw => ⟨rfl, hw.base_below 1 rfl⟩

end Go.Proofs.Ytfhhggcdmgjbcaa.Sx

namespace Go.Proofs.Ytfhhggcdmgjbcaa.Sx
open Go Go.RowKit Go.Proofs

def crcStep (x : Int) : Int := bitsI .xor .u32 (shrI .u32 x 1) (bitsI .and .u32 (negI .u32 (bitsI .and .u32 x 1)) 3988292384)
def crcN (x : Int) : Nat → Int
  | 0 => x
  | n + 1 => crcStep (crcN x n)

set_option maxHeartbeats 8000000 in
theorem sum1_calls {x : Int} {w : World} :
  Calls Try.prog 172 #[.int .u32 x] w (Ret w (.int .u32 (crcN x 8))) := by
 refine calls_ofQ (args := [_]) [base w (Low w)] Try.func172 (by kernel_rfl) (by kernel_rfl) (Heap.start w) ?_
 intro Q hQ
 refine Ev.sr 1 ?_
 refine Rg.ac 2 (.int .u32 0) ?_
 refine Rg.nx (fun _ _ h => h) [2,0] rfl ?_
 refine Ev.sq ?_
 refine Ev.sr 1 ?_
 refine Rg.mc 3 (.int .i64 0) ?_
 refine Rg.nx (fun _ _ h => h) [3,2,0] rfl ?_
 refine Ev.bk 0 ?_
 refine ev_loop (T := Nat) (fun i => [(0, .int .u32 (crcN x i)), (3, .int .i64 (i : Int))]) (fun i => [base w (Low w)]) (fun i => i ≤ 8) (fun i => 8 - i) 0 [0] (by kernel_rfl) (by omega) (.cons (rfl) (.cons (rfl) (.nil _))) rfl (by decide) ?_
 rintro i (hi : i ≤ 8)
 show Ev _ _ [(0, .int .u32 (crcN x i)), (3, .int .i64 (i : Int))] [base w (Low w)] _
 refine Ev.sr 1 ?_
 refine Rg.p 4 (.binOp .lss 3 (.tmp 3) (.const (.int .i64 8)) 3) (pv_lss rfl rfl) ?_
 refine Rg.nx (fun _ _ h => h) [4,3,0] rfl ?_
 refine Ev.sq ?_
 refine Ev.cd 4 rfl (fun h1 => ?_) (fun h1 => ?_)
 ·
  have h2 := of_decide_eq_true h1
  refine Ev.sk ?_
  refine At.nx (fun _ _ h => h) [4,3,0] rfl ?_
  refine Ev.sq ?_
  refine Ev.bk 1 ?_
  refine Ev.rg 8 ?_
  refine Rg.mv 5 0 rfl ?_
  refine Rg.p 6 (.binOp .shr 23 (.tmp 5) (.const (.int .u64 1)) 205) (pv_shr rfl rfl (by omega)) ?_
  refine Rg.mv 7 0 rfl ?_
  refine Rg.p 8 (.binOp .and 23 (.tmp 7) (.const (.int .u32 1)) 23) (pv_bits rfl rfl rfl) ?_
  refine Rg.p 9 (.unOp .neg 23 (.tmp 8)) (pv_neg rfl) ?_
  refine Rg.p 10 (.binOp .and 23 (.tmp 9) (.const (.int .u32 3988292384)) 23) (pv_bits rfl rfl rfl) ?_
  refine Rg.p 11 (.binOp .xor 23 (.tmp 6) (.tmp 10) 23) (pv_bits rfl rfl rfl) ?_
  refine Rg.as 0 11 rfl ?_
  refine Rg.nx (fun _ _ h => h) [11,10,9,8,7,6,5,4,3,0] rfl ?_
  refine Ev.rg 2 ?_
  refine Rg.p 12 (.binOp .add 3 (.tmp 3) (.const (.int .i64 1)) 3) (pv_addb rfl rfl (in_i64 (by omega) (by omega))) ?_
  refine Rg.mv 3 12 rfl ?_
  refine Rg.fin rfl ?_
  refine At.round (fun _ _ h => h) (i + 1) [0] (by omega) (by show 8 - (i + 1) < 8 - i; omega) (.cons (rfl) (.cons (rfl) (.nil _))) rfl (by decide)
 ·
  have h3 := of_decide_eq_false h1
  refine Ev.xt 0 ?_
  refine At.nx (fun _ _ h => h) [0] rfl ?_
  refine Ev.sr 2 ?_
  refine Rg.mv 13 0 rfl ?_
  refine Rg.as 2 13 rfl ?_
  refine Rg.nx (fun _ _ h => h) [2] rfl ?_
  refine Ev.rt ?_
  refine At.via (Q := Q) hQ ?_
  refine At.ret1 rfl rfl rfl ?_
  exact fun w hw => ⟨by have h : i = 8 := (by omega); subst h; rfl, hw.base_below 0 rfl⟩

def sumTo (xs : List Int) : Nat → Int
  | 0 => 4294967295
  | n + 1 => crcN (bitsI .xor .u32 (sumTo xs n) (IntKind.u32.wrap (xs.getD n 0))) 8
def sumS (xs : List Int) : Int := invI .u32 (sumTo xs xs.length)

set_option maxHeartbeats 8000000 in
theorem sum_calls {p : Option Addr} {xs : List Int} {cap : Nat} {w : World} (hB : BytesAt (Low w) w p xs) (hl : xs.length ≤ 4294967296) :
  Calls Try.prog 151 #[.slice p xs.length cap] w (Ret w (.int .u32 (sumS xs))) := by
 refine calls_ofQ (args := [_]) [base w (Low w)] Try.func151 (by kernel_rfl) (by kernel_rfl) (Heap.start w) ?_
 intro Q hQ
 refine Ev.sr 1 ?_
 refine Rg.ac 2 (.int .u32 0) ?_
 refine Rg.nx (fun _ _ h => h) [2,0] rfl ?_
 refine Ev.sr 1 ?_
 refine Rg.p 3 (.assign (.func 172)) (pv_assign rfl) ?_
 refine Rg.nx (fun _ _ h => h) [3,2,0] rfl ?_
 refine Ev.sr 1 ?_
 refine Rg.ac 4 (.int .u32 4294967295) ?_
 refine Rg.nx (fun _ _ h => h) [4,3,2,0] rfl ?_
 refine Ev.sq ?_
 refine Ev.sr 3 ?_
 refine Rg.mv 7 0 rfl ?_
 refine Rg.p 8 (.call { callee := .builtin .len, args := #[.tmp 7], argTypes := #[29] }) (pv_len_slice rfl (by kernel_rfl)) ?_
 refine Rg.mc 9 (.int .i64 0) ?_
 refine Rg.nx (fun _ _ h => h) [9,8,7,4,3,2] rfl ?_
 refine Ev.bk 0 ?_
 refine ev_loop (T := Nat) (fun i => [(3, .func (.func 172) #[] #[]), (4, .int .u32 (sumTo xs i)), (7, .slice p xs.length cap), (8, .int .i64 (xs.length : Int)), (9, .int .i64 (i : Int))]) (fun i => [base w (Low w)]) (fun i => i ≤ xs.length) (fun i => xs.length - i) 0 [0] (by kernel_rfl) (by omega) (.cons (rfl) (.cons (rfl) (.cons (rfl) (.cons (rfl) (.cons (rfl) (.nil _)))))) rfl (by decide) ?_
 rintro i (hi : i ≤ xs.length)
 show Ev _ _ [(3, .func (.func 172) #[] #[]), (4, .int .u32 (sumTo xs i)), (7, .slice p xs.length cap), (8, .int .i64 (xs.length : Int)), (9, .int .i64 (i : Int))] [base w (Low w)] _
 refine Ev.sr 1 ?_
 refine Rg.p 10 (.binOp .lss 3 (.tmp 9) (.tmp 8) 3) (pv_lss rfl rfl) ?_
 refine Rg.nx (fun _ _ h => h) [10,9,8,7,4,3] rfl ?_
 refine Ev.sq ?_
 refine Ev.cd 10 rfl (fun h1 => ?_) (fun h1 => ?_)
 ·
  have h2 := of_decide_eq_true h1
  refine Ev.sk ?_
  refine At.nx (fun _ _ h => h) [10,9,8,7,4,3] rfl ?_
  refine Ev.sq ?_
  refine Ev.bk 1 ?_
  refine Ev.sr 3 ?_
  have ⟨q1, o2, hp3⟩ := hB.adr (by omega)
  refine Rg.p 11 (.indexAddr 29 (.tmp 7) (.tmp 9)) (v := .pointer (some ⟨q1, o2 + ((i : Int)).toNat * 1, none⟩)) (pv_indexAddr' rfl hp3 rfl (e := 5) (sz := 1) (by kernel_rfl) (by omega) (by omega)) ?_
  refine Rg.p 12 (.load 5 (.tmp 11)) (v := .int .u8 ((xs).getD i 0)) (pv_load rfl (by kernel_rfl) (fun w hw => ((hB).keep (hw.at_ 0 rfl) (fun _ h => h)).cell _ _ hp3 _ (by omega) 0 (by decide))) ?_
  refine Rg.as 6 12 rfl ?_
  refine Rg.nx (fun _ _ h => h) [12,11,10,9,8,7,6,4,3] rfl ?_
  refine Ev.rg 7 ?_
  refine Rg.mv 13 3 rfl ?_
  refine Rg.mv 14 4 rfl ?_
  refine Rg.mv 15 6 rfl ?_
  refine Rg.p 16 (.convert 5 23 (.tmp 15)) (pv_convert (q' := .u32) rfl (by kernel_rfl) (by kernel_rfl)) ?_
  refine Rg.p 17 (.binOp .xor 23 (.tmp 14) (.tmp 16) 23) (pv_bits rfl rfl rfl) ?_
  refine rg_callD (d := some 18) (f := 172) (fo := .tmp 13) (caps := #[]) (xs := #[.tmp 17]) (ts := #[23]) (g := none) (v := .int .u32 (crcN (bitsI .xor .u32 (sumTo xs i) (IntKind.u32.wrap ((xs).getD i 0))) 8)) (by kernel_rfl) (by kernel_rfl) rfl (by kernel_rfl) rfl (fun w hw => sum1_calls) ?_
  refine Rg.as 4 18 rfl ?_
  refine Rg.nx (fun _ _ h => h) [18,17,16,15,14,13,12,11,10,9,8,7,6,4,3] rfl ?_
  refine Ev.rg 2 ?_
  refine Rg.p 19 (.binOp .add 3 (.tmp 9) (.const (.int .i64 1)) 3) (pv_addb rfl rfl (in_i64 (by omega) (by omega))) ?_
  refine Rg.mv 9 19 rfl ?_
  refine Rg.fin rfl ?_
  refine At.round (fun _ _ h => h) (i + 1) [0] (by omega) (by show xs.length - (i + 1) < xs.length - i; omega) (.cons (rfl) (.cons (rfl) (.cons (rfl) (.cons (rfl) (.cons (rfl) (.nil _)))))) rfl (by decide)
 ·
  have h3 := of_decide_eq_false h1
  refine Ev.xt 0 ?_
  refine At.nx (fun _ _ h => h) [4] rfl ?_
  refine Ev.sr 3 ?_
  refine Rg.mv 20 4 rfl ?_
  refine Rg.p 21 (.unOp .xor 23 (.tmp 20)) (pv_inv rfl) ?_
  refine Rg.as 2 21 rfl ?_
  refine Rg.nx (fun _ _ h => h) [2] rfl ?_
  refine Ev.rt ?_
  refine At.via (Q := Q) hQ ?_
  refine At.ret1 rfl rfl rfl ?_
  exact fun w hw => ⟨by have h : i = xs.length := (by omega); subst h; rfl, hw.base_below 0 rfl⟩

def getTo (xs : List Int) : Nat → Int
  | 0 => 0
  | n + 1 => bitsI .or .u32 (shlI .u32 (getTo xs n) 8) (IntKind.u32.wrap (xs.getD n 0))
def getN (xs : List Int) : Int := if xs.length < 4 then 0 else getTo xs 4
def getE (xs : List Int) : Int := if xs.length < 4 then 4 else 0

set_option maxHeartbeats 8000000 in
theorem get_calls {p : Option Addr} {xs : List Int} {cap : Nat} {w : World} (hB : BytesAt (Low w) w p xs) (hl : xs.length ≤ 4294967296) (hc : xs.length ≤ cap) :
  Calls Try.prog 152 #[.slice p xs.length cap, .int .i64 4] w (Ret w (.tuple #[.int .u32 (getN xs), .int .i64 (getE xs)])) := by
 refine calls_ofQ (args := [_, _]) [base w (Low w)] Try.func152 (by kernel_rfl) (by kernel_rfl) (Heap.start w) ?_
 intro Q hQ
 refine Ev.sr 2 ?_
 refine Rg.ac 4 (.int .u32 0) ?_
 refine Rg.ac 5 (.int .i64 0) ?_
 refine Rg.nx (fun _ _ h => h) [5,4,1,0] rfl ?_
 refine Ev.sq ?_
 refine Ev.sr 4 ?_
 refine Rg.mv 8 0 rfl ?_
 refine Rg.p 9 (.call { callee := .builtin .len, args := #[.tmp 8], argTypes := #[29] }) (pv_len_slice rfl (by kernel_rfl)) ?_
 refine Rg.mv 10 1 rfl ?_
 refine Rg.p 11 (.binOp .lss 3 (.tmp 9) (.tmp 10) 3) (pv_lss rfl rfl) ?_
 refine Rg.nx (fun _ _ h => h) [11,5,4,1,0] rfl ?_
 refine Ev.cd 11 rfl (fun h1 => ?_) (fun h1 => ?_)
 ·
  have h2 := of_decide_eq_true h1
  refine Ev.sr 2 ?_
  refine Rg.ac 4 (.int .u32 0) ?_
  refine Rg.ac 5 (.int .i64 4) ?_
  refine Rg.nx (fun _ _ h => h) [5,4,1,0] rfl ?_
  refine Ev.rt ?_
  refine At.via (Q := Q) hQ ?_
  refine At.ret2 rfl rfl rfl rfl ?_
  exact fun w hw => ⟨by simp [getN, getE, show xs.length < 4 by omega], hw.base_below 0 rfl⟩
 ·
  have h3 := of_decide_eq_false h1
  refine Ev.sk ?_
  refine At.nx (fun _ _ h => h) [5,4,1,0] rfl ?_
  refine Ev.sq ?_
  refine Ev.sr 5 ?_
  refine Rg.mv 12 0 rfl ?_
  refine Rg.mv 13 1 rfl ?_
  refine Rg.p 14 (.slice 29 (.tmp 12) none (some (.tmp 13)) none) (v := .slice p ((4 : Int).toNat) cap) (pv_slice_hi rfl rfl (e := 5) (sz := 1) (by kernel_rfl) (by omega) (by omega)) ?_
  refine Rg.p 15 (.call { callee := .builtin .len, args := #[.tmp 14], argTypes := #[29] }) (pv_len_slice rfl (by kernel_rfl)) ?_
  refine Rg.mc 16 (.int .i64 0) ?_
  refine Rg.nx (fun _ _ h => h) [16,15,14,5,4] rfl ?_
  refine Ev.bk 0 ?_
  refine ev_loop (T := Nat) (fun i => [(4, .int .u32 (getTo xs i)), (14, .slice p ((4 : Int).toNat) cap), (15, .int .i64 (((4 : Int).toNat : Nat) : Int)), (16, .int .i64 (i : Int))]) (fun i => [base w (Low w)]) (fun i => i ≤ 4) (fun i => 4 - i) 0 [0] (by kernel_rfl) (by omega) (.cons (rfl) (.cons (rfl) (.cons (rfl) (.cons (rfl) (.nil _))))) rfl (by decide) ?_
  rintro i (hi : i ≤ 4)
  show Ev _ _ [(4, .int .u32 (getTo xs i)), (14, .slice p ((4 : Int).toNat) cap), (15, .int .i64 (((4 : Int).toNat : Nat) : Int)), (16, .int .i64 (i : Int))] [base w (Low w)] _
  refine Ev.sr 1 ?_
  refine Rg.p 17 (.binOp .lss 3 (.tmp 16) (.tmp 15) 3) (pv_lss rfl rfl) ?_
  refine Rg.nx (fun _ _ h => h) [17,16,15,14,4] rfl ?_
  refine Ev.sq ?_
  refine Ev.cd 17 rfl (fun h4 => ?_) (fun h4 => ?_)
  ·
   have h5 := of_decide_eq_true h4
   refine Ev.sk ?_
   refine At.nx (fun _ _ h => h) [17,16,15,14,4] rfl ?_
   refine Ev.sq ?_
   refine Ev.bk 1 ?_
   refine Ev.sr 3 ?_
   have ⟨q1, o2, hp3⟩ := hB.adr (by omega)
   refine Rg.p 18 (.indexAddr 29 (.tmp 14) (.tmp 16)) (v := .pointer (some ⟨q1, o2 + ((i : Int)).toNat * 1, none⟩)) (pv_indexAddr' rfl hp3 rfl (e := 5) (sz := 1) (by kernel_rfl) (by omega) (by omega)) ?_
   refine Rg.p 19 (.load 5 (.tmp 18)) (v := .int .u8 ((xs).getD i 0)) (pv_load rfl (by kernel_rfl) (fun w hw => ((hB).keep (hw.at_ 0 rfl) (fun _ h => h)).cell _ _ hp3 _ (by omega) 0 (by decide))) ?_
   refine Rg.as 7 19 rfl ?_
   refine Rg.nx (fun _ _ h => h) [19,18,17,16,15,14,7,4] rfl ?_
   refine Ev.rg 6 ?_
   refine Rg.mv 20 4 rfl ?_
   refine Rg.p 21 (.binOp .shl 23 (.tmp 20) (.const (.int .u64 8)) 205) (pv_shl rfl rfl (by omega)) ?_
   refine Rg.mv 22 7 rfl ?_
   refine Rg.p 23 (.convert 5 23 (.tmp 22)) (pv_convert (q' := .u32) rfl (by kernel_rfl) (by kernel_rfl)) ?_
   refine Rg.p 24 (.binOp .or 23 (.tmp 21) (.tmp 23) 23) (pv_bits rfl rfl rfl) ?_
   refine Rg.as 4 24 rfl ?_
   refine Rg.nx (fun _ _ h => h) [24,23,22,21,20,19,18,17,16,15,14,7,4] rfl ?_
   refine Ev.rg 2 ?_
   refine Rg.p 25 (.binOp .add 3 (.tmp 16) (.const (.int .i64 1)) 3) (pv_addb rfl rfl (in_i64 (by omega) (by omega))) ?_
   refine Rg.mv 16 25 rfl ?_
   refine Rg.fin rfl ?_
   refine At.round (fun _ _ h => h) (i + 1) [0] (by omega) (by show 4 - (i + 1) < 4 - i; omega) (.cons (rfl) (.cons (rfl) (.cons (rfl) (.cons (rfl) (.nil _))))) rfl (by decide)
  ·
   have h6 := of_decide_eq_false h4
   refine Ev.xt 0 ?_
   refine At.nx (fun _ _ h => h) [4] rfl ?_
   refine Ev.sr 3 ?_
   refine Rg.mv 26 4 rfl ?_
   refine Rg.as 4 26 rfl ?_
   refine Rg.ac 5 (.int .i64 0) ?_
   refine Rg.nx (fun _ _ h => h) [5,4] rfl ?_
   refine Ev.rt ?_
   refine At.via (Q := Q) hQ ?_
   refine At.ret2 rfl rfl rfl rfl ?_
   exact fun w hw => ⟨by have h : i = 4 := (by omega); subst h; simp [getN, getE, show ¬ xs.length < 4 by omega], hw.base_below 0 rfl⟩

set_option maxHeartbeats 8000000 in
theorem Get_calls {p : Option Addr} {xs : List Int} {cap : Nat} {w : World} (hB : BytesAt (Low w) w p xs) (hl : xs.length ≤ 4294967296) (hc : xs.length ≤ cap) :
  Calls Try.prog 115 #[.slice p xs.length cap] w (Ret w (.tuple #[.int .u32 (getN xs), .int .i64 (getE xs)])) := by
 refine calls_ofQ (args := [_]) [base w (Low w)] Try.func115 (by kernel_rfl) (by kernel_rfl) (Heap.start w) ?_
 intro Q hQ
 refine Ev.sr 2 ?_
 refine Rg.ac 2 (.int .u32 0) ?_
 refine Rg.ac 3 (.int .i64 0) ?_
 refine Rg.nx (fun _ _ h => h) [3,2,0] rfl ?_
 refine Ev.sr 6 ?_
 refine Rg.mv 4 0 rfl ?_
 refine Rg.cl (some 5) 152 #[.tmp 4, .const (.int .i64 4)] #[29, 3] (v := .tuple #[.int .u32 (getN xs), .int .i64 (getE xs)]) rfl (fun w hw => get_calls ((hB).keep (hw.at_ 0 rfl) (fun k hk => hw.lt 0 rfl hk)) hl hc) ?_
 refine Rg.ex 6 5 0 rfl rfl ?_
 refine Rg.ex 7 5 1 rfl rfl ?_
 refine Rg.as 2 6 rfl ?_
 refine Rg.as 3 7 rfl ?_
 refine Rg.nx (fun _ _ h => h) [3,2] rfl ?_
 refine Ev.rt ?_
 refine At.via (Q := Q) hQ ?_
 refine At.ret2 rfl rfl rfl rfl ?_
 exact fun w hw => ⟨rfl, hw.base_below 0 rfl⟩

def byteAt (n : Int) (m k : Nat) : Int := IntKind.u8.wrap (shrI .u64 n (8 * ((m : Int) - 1 - (k : Int))))
def putV (n : Int) (m : Nat) : Nat → List Value
  | 0 => []
  | k + 1 => putV n m k ++ [.int .u8 (byteAt n m k)]
def byteRows (n : Int) (m : Nat) : List (List Value) := (List.range m).map fun k => [.int .u8 (byteAt n m k)]
theorem getD_rangeMap {α : Type} (f : Nat → α) (d : α) {m k : Nat} (h : k < m) : ((List.range m).map f).getD k d = f k := by
  simp [List.getD_eq_getElem?_getD, List.getElem?_map, List.getElem?_range h]
theorem byteRows_length (n : Int) (m : Nat) : (byteRows n m).length = m := by simp [byteRows]

set_option maxHeartbeats 8000000 in
theorem bytes_calls {n m : Int} {w : World} :
  Calls Try.prog 154 #[.int .u64 n, .int .i64 m] w (RetN w (fun _ : Nat × Nat => True) (fun x => .func (.func 173) #[] #[.pointer (some ⟨x.1, 0, none⟩), .pointer (some ⟨x.2, 0, none⟩)]) (fun x => [blk x.1 (.cells #[.int .i64 m] 3 (0, 0)), blk x.2 (.cells #[.int .u64 n] 34 (0, 0))])) := by
 refine calls_ofQ (args := [_, _]) [base w (Low w)] Try.func154 (by kernel_rfl) (by kernel_rfl) (Heap.start w) ?_
 intro Q hQ
 refine Ev.sr 3 ?_
 refine Rg.bx 2 34 (.tmp 0) rfl fun b1 => ?_
 refine Rg.bx 3 3 (.tmp 1) rfl fun b2 => ?_
 refine Rg.ac 4 (.nilFunc) ?_
 refine Rg.nx (fun _ _ h => h) [4,3,2] rfl ?_
 refine Ev.sr 2 ?_
 refine Rg.p 5 (.makeFunc (.func 173) #[] #[.tmp 3, .tmp 2]) (v := .func (.func 173) #[] #[.pointer (some ⟨b2, 0, none⟩), .pointer (some ⟨b1, 0, none⟩)]) (pv_makeFunc (xs := [.tmp 3, .tmp 2]) rfl) ?_
 refine Rg.as 4 5 rfl ?_
 refine Rg.nx (fun _ _ h => h) [4] rfl ?_
 refine Ev.rt ?_
 refine At.via (Q := Q) hQ ?_
 refine At.ret1 rfl rfl rfl ?_
 exact fun w hw => ⟨(b2, b1), trivial, rfl, hw⟩

set_option maxHeartbeats 8000000 in
theorem bytes1_iter {n : Int} {m : Nat} {b c : Nat} {w0 : World} {it : Item} (hm : m ≤ 8) :
  IterAt Try.prog 173 #[.pointer (some ⟨c, 0, none⟩), .pointer (some ⟨b, 0, none⟩)] (byteRows n m) w0 [blk c (.cells #[.int .i64 (m : Int)] 3 (0, 0)), blk b (.cells #[.int .u64 n] 34 (0, 0))] [it] := by
 intro T J Jx l t0 w fr h hY
 refine calls_ofQ (args := [.func (.yield l) #[] #[], .pointer (some ⟨c, 0, none⟩), .pointer (some ⟨b, 0, none⟩)]) [blk c (.cells #[.int .i64 (m : Int)] 3 (0, 0)), blk b (.cells #[.int .u64 n] 34 (0, 0)), J 0 t0, fr, it] Try.func173 (by kernel_rfl) (by kernel_rfl) h ?_
 intro Q hQ
 refine Ev.sr 3 ?_
 refine Rg.ld 5 3 1 0 rfl rfl rfl ?_
 refine Rg.p 6 (.binOp .sub 3 (.tmp 5) (.const (.int .i64 1)) 3) (pv_subb rfl rfl (in_i64 (by omega) (by omega))) ?_
 refine Rg.as 4 6 rfl ?_
 refine Rg.nx (fun _ _ h => h) [4,2,0] rfl ?_
 refine Ev.bk 0 ?_
 refine ev_loop (T := Nat × T) (fun x_ => (fun k t => [(0, .func (.yield l) #[] #[]), (2, .pointer (some ⟨b, 0, none⟩)), (4, .int .i64 ((m : Int) - 1 - (k : Int)))]) x_.1 x_.2) (fun x_ => (fun k t => [blk c (.cells #[.int .i64 (m : Int)] 3 (0, 0)), blk b (.cells #[.int .u64 n] 34 (0, 0)), J k t, fr, it]) x_.1 x_.2) (fun x_ => (fun k t => k ≤ m) x_.1 x_.2) (fun x_ => (fun k t => m - k) x_.1 x_.2) (0, t0) [0, 1, 2, 3, 4] (by kernel_rfl) (by show 0 ≤ m; omega) (.cons (rfl) (.cons (rfl) (.cons (congrArg (fun z => some (Value.int .i64 z)) (by omega)) (.nil _)))) rfl (by decide) ?_
 rintro ⟨k, t⟩ (hk : k ≤ m)
 show Ev _ _ [(0, .func (.yield l) #[] #[]), (2, .pointer (some ⟨b, 0, none⟩)), (4, .int .i64 ((m : Int) - 1 - (k : Int)))] [blk c (.cells #[.int .i64 (m : Int)] 3 (0, 0)), blk b (.cells #[.int .u64 n] 34 (0, 0)), J k t, fr, it] _
 refine Ev.sq ?_
 refine Ev.sr 2 ?_
 refine Rg.mv 7 4 rfl ?_
 refine Rg.p 8 (.binOp .geq 3 (.tmp 7) (.const (.int .i64 0)) 3) (pv_geq rfl rfl) ?_
 refine Rg.nx (fun _ _ h => h) [8,7,4,2,0] rfl ?_
 refine Ev.cd 8 rfl (fun h1 => ?_) (fun h1 => ?_)
 ·
  have h2 := of_decide_eq_true h1
  refine Ev.sk ?_
  refine At.nx (fun _ _ h => h) [8,7,4,2,0] rfl ?_
  refine Ev.sq ?_
  refine Ev.bk 1 ?_
  refine Ev.sr 8 ?_
  refine Rg.mv 11 0 rfl ?_
  refine Rg.ld 12 34 2 1 rfl rfl rfl ?_
  refine Rg.mv 13 4 rfl ?_
  refine Rg.p 14 (.binOp .mul 3 (.const (.int .i64 8)) (.tmp 13) 3) (pv_mulb rfl rfl (in_i64 (by omega) (by omega))) ?_
  refine Rg.p 15 (.binOp .shr 34 (.tmp 12) (.tmp 14) 3) (pv_shr rfl rfl (by omega)) ?_
  refine Rg.p 16 (.convert 34 5 (.tmp 15)) (pv_convert (q' := .u8) rfl (by kernel_rfl) (by kernel_rfl)) ?_
  refine rg_yield (T := T) (d := 17) (l := l) (fo := .tmp 11) (xs := #[.tmp 16]) (ts := #[5]) (g := none) (S1 := fun t1 => [blk c (.cells #[.int .i64 (m : Int)] 3 (0, 0)), blk b (.cells #[.int .u64 n] 34 (0, 0)), J (k + 1) t1, fr, it]) (S2 := fun t1 => [blk c (.cells #[.int .i64 (m : Int)] 3 (0, 0)), blk b (.cells #[.int .u64 n] 34 (0, 0)), Jx (k + 1) t1, fr, it]) rfl (by kernel_rfl) (by kernel_rfl) rfl rfl (yield_own hY [blk c (.cells #[.int .i64 (m : Int)] 3 (0, 0)), blk b (.cells #[.int .u64 n] 34 (0, 0))] (k) t (by rw [byteRows_length]; omega) (by unfold byteRows; rw [getD_rangeMap _ _ (by omega)]; rfl)) (fun t1 => ?_) (fun t1 => ?_)
  ·
   refine Rg.p 18 (.unOp .not 4 (.tmp 17)) (pv_not (b := true) rfl) ?_
   refine Rg.nx (fun _ _ h => h) [18,17,16,15,14,13,12,11,8,7,4,2,0] rfl ?_
   refine ev_cond_f (t := 18) (by kernel_rfl) rfl ?_
   refine Ev.sk ?_
   refine At.nx (fun _ _ h => h) [18,17,16,15,14,13,12,11,8,7,4,2,0] rfl ?_
   refine Ev.rg 3 ?_
   refine Rg.mv 9 4 rfl ?_
   refine Rg.p 10 (.binOp .sub 3 (.tmp 9) (.const (.int .i64 1)) 3) (pv_subb rfl rfl (in_i64 (by omega) (by omega))) ?_
   refine Rg.as 4 10 rfl ?_
   refine Rg.fin rfl ?_
   refine At.round (t := (k, t)) (fun _ _ h => h) (k + 1, t1) [0, 1, 2, 3, 4] (by show k + 1 ≤ m; omega) (by show m - (k + 1) < m - k; omega) (.cons (rfl) (.cons (rfl) (.cons (congrArg (fun z => some (Value.int .i64 z)) (by omega)) (.nil _)))) rfl (by decide)
  ·
   refine Rg.p 18 (.unOp .not 4 (.tmp 17)) (pv_not (b := false) rfl) ?_
   refine Rg.nx (fun _ _ h => h) [18,17,16,15,14,13,12,11,8,7,4,2,0] rfl ?_
   refine ev_cond_t (t := 18) (by kernel_rfl) rfl ?_
   refine Ev.rt ?_
   refine At.via (Q := Q) hQ ?_
   refine At.ret0 ?_ ?_ ?_
   ·
    rfl
   ·
    rfl
   exact fun w hw => ⟨⟨_, rfl⟩, .inr ⟨_, _, (by rw [byteRows_length]; omega), hw.pick [2, 3, 4] (by decide)⟩⟩
 ·
  have h3 := of_decide_eq_false h1
  refine Ev.xt 0 ?_
  refine At.via (Q := Q) hQ ?_
  refine At.norm0 ?_ ?_ ?_
  ·
   rfl
  ·
   rfl
  exact fun w hw => ⟨⟨_, rfl⟩, .inl ⟨t, (by have e : k = (byteRows n m).length := (by rw [byteRows_length]; omega); subst e; exact hw.pick [2, 3, 4] (by decide))⟩⟩

end Go.Proofs.Ytfhhggcdmgjbcaa.Sx

namespace Go.Proofs.Ytfhhggcdmgjbcaa.Sx
open Go Go.RowKit Go.Proofs

set_option maxHeartbeats 8000000 in
theorem put_calls {n : Int} {m : Nat} {w : World} (hm : m ≤ 8) :
  Calls Try.prog 122 #[.int .u64 n, .int .i64 (m : Int)] w (RetN w (fun x : Option Addr × Nat => m ≤ x.2) (fun x => .slice x.1 m x.2) (fun x => [own 5 1 x.1 m x.2 (putV n m m)])) := by
 refine calls_ofM (args := [_, _]) [base w (Low w)] Try.func122 (by kernel_rfl) (by kernel_rfl) (Heap.start w) ?_
 intro Q hQ
 refine Ev.sr 1 ?_
 refine Rg.al 4 29 (.slice none 0 0) fun b1 => ?_
 refine Rg.nx (fun _ _ h => h) [4,1,0] rfl ?_
 refine Ev.sq ?_
 refine Ev.sr 3 ?_
 refine Rg.mv 6 0 rfl ?_
 refine Rg.mv 7 1 rfl ?_
 refine Rg.cn (T := Nat × Nat) (some 8) 154 #[.tmp 6, .tmp 7] #[34, 3] (v := fun ⟨b3, b2⟩ => .func (.func 173) #[] #[.pointer (some ⟨b3, 0, none⟩), .pointer (some ⟨b2, 0, none⟩)]) (L := fun ⟨b3, b2⟩ => [blk b3 (.cells #[.int .i64 (m : Int)] 3 (0, 0)), blk b2 (.cells #[.int .u64 n] 34 (0, 0))]) rfl (fun w hw => bytes_calls) ?_
 rintro ⟨b3, b2⟩ _
 dsimp only [putE, List.append, HAppend.hAppend, Append.append]
 refine Rg.nx (fun _ _ h => h) [8,4] rfl ?_
 refine Ev.bk 0 ?_
 refine Ev.ownNil 5 1 ?_
 refine Ev.addFact (show 0 ≤ 0 from Nat.le_refl _) ?_
 refine ev_rangeFunc (T := Option Addr × Nat) (t := 8) (ps := #[9]) (gf := 173) (caps := #[.pointer (some ⟨b3, 0, none⟩), .pointer (some ⟨b2, 0, none⟩)]) (byteRows n m) (fun i_ x_ => (fun p c => [blk b1 (.cells #[.slice p i_ c] 29 (0, 0)), own 5 1 p i_ c (putV n m i_), fact (i_ ≤ c)]) x_.1 x_.2) (fun i_ x_ => (fun p c => [fact False]) x_.1 x_.2) (.skip) (none, 0) [blk b3 (.cells #[.int .i64 (m : Int)] 3 (0, 0)), blk b2 (.cells #[.int .u64 n] 34 (0, 0))] [base w (Low w)] (by kernel_rfl) rfl rfl (by kernel_rfl) (by kernel_rfl) (by simp [byteRows]) (fun w hw => hw.pick [4, 1, 0, 2, 3, 5] (by decide)) (bytes1_iter hm) ?_ ?_ ?_
 ·
  intro F l Db0 i_ ⟨p, c⟩ fr hn
  have hn_ := hn
  rw [show (byteRows n m).length = m from byteRows_length n m] at hn_
  rw [show (byteRows n m).getD i_ [] = [.int .u8 (byteAt n m i_)] from (by unfold byteRows; exact getD_rangeMap _ _ (by rw [byteRows_length] at hn; exact hn))]
  refine Ev.weak (E' := [(4, .pointer (some ⟨b1, 0, none⟩)), (9, .int .u8 (byteAt n m i_))]) (S' := [blk b1 (.cells #[.slice p i_ c] 29 (0, 0)), own 5 1 p i_ c (putV n m i_), fact (i_ ≤ c), blk l (.loop (F.rc .ready none)), blk Db0 (.deferred (some [])), fr, base w (Low w)]) [0, 1, 2, 3, 4, 5, 6] (.cons (rfl) (.cons (rfl) (.nil _))) rfl (by decide) ?_
  refine Ev.factAt 2 rfl (fun hcc => ?_)
  refine Ev.rg 1 ?_
  refine Rg.as 5 9 rfl ?_
  refine Rg.fin rfl ?_
  refine at_beginQ (E' := [(4, .pointer (some ⟨b1, 0, none⟩)), (5, .int .u8 (byteAt n m i_))]) 3 [0, 1, 2, 3, 4, 5, 6] rfl rfl (.cons (rfl) (.cons (rfl) (.nil _))) (by decide) ?_
  intro Qr hQr
  refine Ev.bk 1 ?_
  refine Ev.rg 5 ?_
  refine Rg.ld 10 29 4 0 rfl rfl rfl ?_
  refine Rg.mv 11 5 rfl ?_
  refine rg_buildSlice (d := 12) (t := 29) (e := 5) (sz := 1) (len := 1) (parts := [(0, .tmp 11)]) (g := none) (vs := [.int .u8 (byteAt n m i_)]) (cs := #[.int .u8 (byteAt n m i_)]) (by kernel_rfl) (by kernel_rfl) rfl (by kernel_rfl) (.int .u8 0) (by kernel_rfl) (by kernel_rfl) (by kernel_rfl) ?_
  intro b4
  refine rg_append (d := 13) (t := 29) (e := 5) (sz := 1) (x := .tmp 10) (y := .tmp 12) (ty := 29) (g := none) (m := 1) (ys := [.int .u8 (byteAt n m i_)]) (zv := .int .u8 0) 2 (by kernel_rfl) (by kernel_rfl) rfl rfl (by kernel_rfl) (by kernel_rfl) (by kernel_rfl) (by kernel_rfl) (by kernel_rfl) rfl rfl rfl rfl (fun w hw => firstCells_blk hw 0 rfl rfl) (by show (2 * (i_ + 1) + 192) * bytesT Try.prog 5 ≤ 281474976710656; rw [show bytesT Try.prog 5 = 1 from by kernel_rfl]; omega) (by kernel_rfl) ?_
  intro p5 c6 hc_c6 he_c6
  refine Rg.st 29 4 (.tmp 13) 1 #[.slice p5 (i_ + 1) c6] rfl rfl rfl ?_
  refine Rg.fin rfl ?_
  refine At.via (Q := Qr) hQr ?_
  refine at_roundEnd (p5, c6) 4 rfl (fun w hw => (hw.addFact hc_c6).pick [2, 3, 0, 5, 6, 7, 8] (by decide))
 ·
  intro Db0 ⟨p, c⟩
  rw [show (byteRows n m).length = m from byteRows_length n m]
  refine At.factAt 2 rfl (fun hcc => ?_)
  refine At.nx (fun _ _ h => h) [4] rfl ?_
  refine Ev.sr 2 ?_
  refine Rg.ld 14 29 4 0 rfl rfl rfl ?_
  refine Rg.st 29 4 (.tmp 14) 0 #[.slice p m c] rfl rfl rfl ?_
  refine Rg.nx (fun _ _ h => h) [4] rfl ?_
  refine Ev.rt ?_
  refine At.via (Q := Q) hQ ?_
  refine At.leave ?_
  refine LeaveAt.mark 3 rfl ?_
  refine LeaveAt.one rfl (reads_cell 0 rfl rfl (by kernel_rfl) rfl) ?_
  exact fun w hw => ⟨(p, c), hcc, rfl, hw.pick [1, 4] (by decide)⟩
 ·
  intro Db0 i_ ⟨p, c⟩ hn
  exact fun a w ha hw => (hw.bot (φ := False) (by simp)).elim

end Go.Proofs.Ytfhhggcdmgjbcaa.Sx

namespace Go.Proofs.Ytfhhggcdmgjbcaa.Sx
open Go Go.RowKit Go.Proofs

def putB (n : Int) : List Int := [byteAt (IntKind.u64.wrap n) 4 0, byteAt (IntKind.u64.wrap n) 4 1, byteAt (IntKind.u64.wrap n) 4 2, byteAt (IntKind.u64.wrap n) 4 3]

set_option maxHeartbeats 8000000 in
theorem Put_calls {n : Int} {w : World} :
  Calls Try.prog 84 #[.int .u32 n] w (RetN w (fun x : Option Addr × Nat => 4 ≤ x.2) (fun x => .slice x.1 4 x.2) (fun x => [own 5 1 x.1 4 x.2 (bv (putB n))])) := by
 refine calls_ofQ (args := [_]) [base w (Low w)] Try.func84 (by kernel_rfl) (by kernel_rfl) (Heap.start w) ?_
 intro Q hQ
 refine Ev.sr 1 ?_
 refine Rg.ac 2 (.slice none 0 0) ?_
 refine Rg.nx (fun _ _ h => h) [2,0] rfl ?_
 refine Ev.sr 4 ?_
 refine Rg.mv 3 0 rfl ?_
 refine Rg.p 4 (.convert 23 34 (.tmp 3)) (pv_convert (q' := .u64) rfl (by kernel_rfl) (by kernel_rfl)) ?_
 refine Rg.cn (T := Option Addr × Nat) (some 5) 122 #[.tmp 4, .const (.int .i64 4)] #[34, 3] (v := fun ⟨p1, c2⟩ => .slice p1 4 c2) (L := fun ⟨p1, c2⟩ => [own 5 1 p1 4 c2 (putV (IntKind.u64.wrap n) 4 4)]) rfl (fun w hw => put_calls (m := 4) (by omega)) ?_
 rintro ⟨p1, c2⟩ hc_c2
 dsimp only [putE, List.append, HAppend.hAppend, Append.append]
 have hk_c2 : 4 ≤ c2 := hc_c2
 refine Rg.as 2 5 rfl ?_
 refine Rg.nx (fun _ _ h => h) [2] rfl ?_
 refine Ev.rt ?_
 refine At.via (Q := Q) hQ ?_
 refine At.ret1 rfl rfl rfl ?_
 exact fun w hw => ⟨(p1, c2), by first | assumption | (show _ ≤ _; omega), rfl, hw.pick [0, 1] (by decide)⟩

set_option maxHeartbeats 8000000 in
theorem Grow_calls {n : Int} {w : World} (hn0 : 0 ≤ n) (hn1 : n ≤ 4294967296) :
  Calls Try.prog 155 #[.slice none 0 0, .int .i64 n] w (RetN w (fun x : Option Addr × Nat => n.toNat ≤ x.2) (fun x => .slice x.1 0 x.2) (fun x => [own 5 1 x.1 0 x.2 []])) := by
 refine calls_ofQ (args := [_, _]) [base w (Low w)] Try.func155 (by kernel_rfl) (by kernel_rfl) (Heap.start w) ?_
 intro Q hQ
 refine Ev.sr 1 ?_
 refine Rg.ac 4 (.slice none 0 0) ?_
 refine Rg.nx (fun _ _ h => h) [4,1,0] rfl ?_
 refine Ev.sq ?_
 refine Ev.sr 2 ?_
 refine Rg.mv 5 1 rfl ?_
 refine Rg.p 6 (.binOp .lss 3 (.tmp 5) (.const (.int .i64 0)) 3) (pv_lss rfl rfl) ?_
 refine Rg.nx (fun _ _ h => h) [6,4,1,0] rfl ?_
 refine Ev.cd 6 rfl (fun h1 => ?_) (fun h1 => ?_)
 ·
  have h2 := of_decide_eq_true h1
  exact (show False from by omega).elim
 ·
  have h3 := of_decide_eq_false h1
  refine Ev.sk ?_
  refine At.nx (fun _ _ h => h) [4,1,0] rfl ?_
  refine Ev.sq ?_
  refine Ev.sr 8 ?_
  refine Rg.mv 8 1 rfl ?_
  refine Rg.mv 9 0 rfl ?_
  refine Rg.p 10 (.call { callee := .builtin .cap, args := #[.tmp 9], argTypes := #[29] }) (v := .int .i64 0) (pv_cap_slice rfl (by kernel_rfl)) ?_
  refine Rg.mv 11 0 rfl ?_
  refine Rg.p 12 (.call { callee := .builtin .len, args := #[.tmp 11], argTypes := #[29] }) (v := .int .i64 (0 : Int)) (pv_len_slice rfl (by kernel_rfl)) ?_
  refine Rg.p 13 (.binOp .sub 3 (.tmp 10) (.tmp 12) 3) (pv_subb rfl rfl (in_i64 (by omega) (by omega))) ?_
  refine Rg.p 14 (.binOp .sub 3 (.tmp 8) (.tmp 13) 3) (pv_subb rfl rfl (in_i64 (by omega) (by omega))) ?_
  refine Rg.as 1 14 rfl ?_
  refine Rg.nx (fun _ _ h => h) [4,1,0] rfl ?_
  refine Ev.sr 2 ?_
  refine Rg.mv 15 1 rfl ?_
  refine Rg.p 16 (.binOp .gtr 3 (.tmp 15) (.const (.int .i64 0)) 3) (pv_gtr rfl rfl) ?_
  refine Rg.nx (fun _ _ h => h) [16,4,1,0] rfl ?_
  refine Ev.cd 16 rfl (fun h4 => ?_) (fun h4 => ?_)
  ·
   have h5 := of_decide_eq_true h4
   refine Ev.rg 10 ?_
   refine Rg.mv 17 0 rfl ?_
   refine Rg.mv 18 0 rfl ?_
   refine Rg.p 19 (.call { callee := .builtin .cap, args := #[.tmp 18], argTypes := #[29] }) (v := .int .i64 0) (pv_cap_slice rfl (by kernel_rfl)) ?_
   refine Rg.p 20 (.slice 29 (.tmp 17) none (some (.tmp 19)) none) (v := .slice none ((0 : Int).toNat) 0) (pv_slice_hi rfl rfl (e := 5) (sz := 1) (by kernel_rfl) (by omega) (by omega)) ?_
   refine Rg.mv 21 1 rfl ?_
   refine rg_appendZ (d := 22) (t := 29) (e := 5) (x := .tmp 20) (y := .tmp 21) (ty := 3) (g := none) (q := .i64) (by kernel_rfl) (by kernel_rfl) rfl rfl (by kernel_rfl) (zv := .int .u8 0) (by kernel_rfl) (by kernel_rfl) (by kernel_rfl) (by omega) (by omega) (by show bytesT Try.prog 5 ≤ 4096; rw [show bytesT Try.prog 5 = 1 from by kernel_rfl]; omega) ?_
   intro p1 c2 hc_c2
   refine Rg.mv 23 0 rfl ?_
   refine Rg.p 24 (.call { callee := .builtin .len, args := #[.tmp 23], argTypes := #[29] }) (v := .int .i64 (0 : Int)) (pv_len_slice rfl (by kernel_rfl)) ?_
   refine Rg.p 25 (.slice 29 (.tmp 22) none (some (.tmp 24)) none) (v := .slice p1 (((0 : Int)).toNat) c2) (pv_slice_hi rfl rfl (e := 5) (sz := 1) (by kernel_rfl) (by omega) (by omega)) ?_
   refine Rg.as 0 25 rfl ?_
   refine Rg.nx (fun _ _ h => h) [4,0] rfl ?_
   refine Ev.sr 2 ?_
   refine Rg.mv 26 0 rfl ?_
   refine Rg.as 4 26 rfl ?_
   refine Rg.nx (fun _ _ h => h) [4] rfl ?_
   refine Ev.rt ?_
   refine At.via (Q := Q) hQ ?_
   refine At.ret1 rfl rfl rfl ?_
   exact fun w hw => ⟨(p1, c2), by show n.toNat ≤ c2; (have := hc_c2; rw [show n - (0 - 0) = n by omega] at this; exact this), rfl, hw.pick [0, 1] (by decide)⟩
  ·
   have h6 := of_decide_eq_false h4
   refine Ev.sk ?_
   refine At.nx (fun _ _ h => h) [4,0] rfl ?_
   refine Ev.sr 2 ?_
   refine Rg.mv 26 0 rfl ?_
   refine Rg.as 4 26 rfl ?_
   refine Rg.nx (fun _ _ h => h) [4] rfl ?_
   refine Ev.rt ?_
   refine At.via (Q := Q) hQ ?_
   refine At.ret1 rfl rfl rfl ?_
   exact fun w hw => ⟨(none, 0), by show n.toNat ≤ 0; omega, rfl, (hw.ownNil 5 1).pick [0, 1] (by decide)⟩

set_option maxHeartbeats 8000000 in
theorem Concat_calls {p : Option Addr} {rs : List Row} {cap : Nat} {w : World} (hR : SlicesAt (Low w) w p rs) (hl : rs.length ≤ 1048576) (ht : lenTo rs rs.length ≤ 1073741824) :
  Calls Try.prog 123 #[.slice p rs.length cap] w (RetN w (fun x : Option Addr × Nat => lenTo rs rs.length ≤ x.2) (fun x => .slice x.1 (lenTo rs rs.length) x.2) (fun x => [own 5 1 x.1 (lenTo rs rs.length) x.2 (bv (catB rs rs.length))])) := by
 refine calls_ofQ (args := [_]) [base w (Low w)] Try.func123 (by kernel_rfl) (by kernel_rfl) (Heap.start w) ?_
 intro Q hQ
 refine Ev.sr 1 ?_
 refine Rg.ac 2 (.slice none 0 0) ?_
 refine Rg.nx (fun _ _ h => h) [2,0] rfl ?_
 refine Ev.sr 1 ?_
 refine Rg.ac 3 (.int .i64 0) ?_
 refine Rg.nx (fun _ _ h => h) [3,2,0] rfl ?_
 refine Ev.sq ?_
 refine Ev.sr 3 ?_
 refine Rg.mv 9 0 rfl ?_
 refine Rg.p 10 (.call { callee := .builtin .len, args := #[.tmp 9], argTypes := #[237] }) (pv_len_slice rfl (by kernel_rfl)) ?_
 refine Rg.mc 11 (.int .i64 0) ?_
 refine Rg.nx (fun _ _ h => h) [11,10,9,3,2,0] rfl ?_
 refine Ev.bk 0 ?_
 refine ev_loop (T := Nat) (fun k => [(2, .slice none 0 0), (0, .slice p rs.length cap), (3, .int .i64 (lenTo rs k : Int)), (9, .slice p rs.length cap), (10, .int .i64 (rs.length : Int)), (11, .int .i64 (k : Int))]) (fun k => [base w (Low w)]) (fun k => k ≤ rs.length) (fun k => rs.length - k) 0 [0] (by kernel_rfl) (by omega) (.cons (rfl) (.cons (rfl) (.cons (rfl) (.cons (rfl) (.cons (rfl) (.cons (rfl) (.nil _))))))) rfl (by decide) ?_
 rintro k (hk : k ≤ rs.length)
 show Ev _ _ [(2, .slice none 0 0), (0, .slice p rs.length cap), (3, .int .i64 (lenTo rs k : Int)), (9, .slice p rs.length cap), (10, .int .i64 (rs.length : Int)), (11, .int .i64 (k : Int))] [base w (Low w)] _
 have hb1 := lenTo_all rs k
 have hb2 := lenTo_all rs (k + 1)
 simp only [lenTo] at hb2
 refine Ev.sr 1 ?_
 refine Rg.p 12 (.binOp .lss 3 (.tmp 11) (.tmp 10) 3) (pv_lss rfl rfl) ?_
 refine Rg.nx (fun _ _ h => h) [12,11,10,9,3,2,0] rfl ?_
 refine Ev.sq ?_
 refine Ev.cd 12 rfl (fun h1 => ?_) (fun h1 => ?_)
 ·
  have h2 := of_decide_eq_true h1
  refine Ev.sk ?_
  refine At.nx (fun _ _ h => h) [12,11,10,9,3,2,0] rfl ?_
  refine Ev.sq ?_
  refine Ev.bk 1 ?_
  refine Ev.sr 3 ?_
  have ⟨q1, o2, hp3⟩ := hR.rows.adr (by omega)
  refine Rg.p 13 (.indexAddr 237 (.tmp 9) (.tmp 11)) (v := .pointer (some ⟨q1, o2 + ((k : Int)).toNat * 1, none⟩)) (pv_indexAddr' rfl hp3 rfl (e := 29) (sz := 1) (by kernel_rfl) (by omega) (by omega)) ?_
  refine Rg.p 14 (.load 29 (.tmp 13)) (v := .slice ((rw_ rs k).p) ((rw_ rs k).xs.length) ((rw_ rs k).cap)) (pv_load rfl (by kernel_rfl) (fun w hw => ((hR).keep (hw.at_ 0 rfl) (fun _ h => h)).rows.cell _ _ hp3 _ (by omega) 0 (by decide))) ?_
  refine Rg.as 5 14 rfl ?_
  refine Rg.nx (fun _ _ h => h) [14,13,12,11,10,9,5,3,2,0] rfl ?_
  refine Ev.sr 5 ?_
  refine Rg.mv 15 3 rfl ?_
  refine Rg.mv 16 5 rfl ?_
  refine Rg.p 17 (.call { callee := .builtin .len, args := #[.tmp 16], argTypes := #[29] }) (pv_len_slice rfl (by kernel_rfl)) ?_
  refine Rg.p 18 (.binOp .add 3 (.tmp 15) (.tmp 17) 3) (pv_addb rfl rfl (in_i64 (by omega) (by omega))) ?_
  refine Rg.as 3 18 rfl ?_
  refine Rg.nx (fun _ _ h => h) [18,17,16,15,14,13,12,11,10,9,5,3,2,0] rfl ?_
  refine Ev.sr 2 ?_
  refine Rg.mv 19 3 rfl ?_
  refine Rg.p 20 (.binOp .lss 3 (.tmp 19) (.const (.int .i64 0)) 3) (pv_lss rfl rfl) ?_
  refine Rg.nx (fun _ _ h => h) [20,19,18,17,16,15,14,13,12,11,10,9,5,3,2,0] rfl ?_
  refine Ev.cd 20 rfl (fun h3 => ?_) (fun h3 => ?_)
  ·
   have h4 := of_decide_eq_true h3
   exact (show False from by omega).elim
  ·
   have h5 := of_decide_eq_false h3
   refine Ev.sk ?_
   refine At.nx (fun _ _ h => h) [20,19,18,17,16,15,14,13,12,11,10,9,5,3,2,0] rfl ?_
   refine Ev.rg 2 ?_
   refine Rg.p 22 (.binOp .add 3 (.tmp 11) (.const (.int .i64 1)) 3) (pv_addb rfl rfl (in_i64 (by omega) (by omega))) ?_
   refine Rg.mv 11 22 rfl ?_
   refine Rg.fin rfl ?_
   refine At.round (fun _ _ h => h) (k + 1) [0] (by omega) (by show rs.length - (k + 1) < rs.length - k; omega) (.cons (rfl) (.cons (rfl) (.cons (rfl) (.cons (rfl) (.cons (rfl) (.cons (rfl) (.nil _))))))) rfl (by decide)
 ·
  have h6 := of_decide_eq_false h1
  refine Ev.xt 0 ?_
  refine At.nx (fun _ _ h => h) [3,2,0] rfl ?_
  refine Ev.sr 3 ?_
  refine Rg.mv 23 3 rfl ?_
  refine Rg.cn (T := Option Addr × Nat) (some 24) 155 #[.const (.slice none 0 0), .tmp 23] #[29, 3] (v := fun ⟨p4, c5⟩ => .slice p4 0 c5) (L := fun ⟨p4, c5⟩ => [own 5 1 p4 0 c5 []]) rfl (fun w hw => Grow_calls (by omega) (by omega)) ?_
  rintro ⟨p4, c5⟩ hc_c5
  dsimp only [putE, List.append, HAppend.hAppend, Append.append]
  refine Rg.as 6 24 rfl ?_
  refine Rg.nx (fun _ _ h => h) [6,2,0] rfl ?_
  refine Ev.sq ?_
  refine Ev.sr 3 ?_
  refine Rg.mv 25 0 rfl ?_
  refine Rg.p 26 (.call { callee := .builtin .len, args := #[.tmp 25], argTypes := #[237] }) (pv_len_slice rfl (by kernel_rfl)) ?_
  refine Rg.mc 27 (.int .i64 0) ?_
  refine Rg.nx (fun _ _ h => h) [27,26,25,6,2] rfl ?_
  refine Ev.bk 2 ?_
  refine ev_loop (T := Nat × Option Addr × Nat) (fun x_ => (fun k p1 c1 => [(2, .slice none 0 0), (6, .slice p1 (lenTo rs k) c1), (25, .slice p rs.length cap), (26, .int .i64 (rs.length : Int)), (27, .int .i64 (k : Int))]) x_.1 x_.2.1 x_.2.2) (fun x_ => (fun k p1 c1 => [own 5 1 p1 (lenTo rs k) c1 (catV rs k), base w (Low w)]) x_.1 x_.2.1 x_.2.2) (fun x_ => (fun k p1 c1 => k ≤ rs.length ∧ lenTo rs k ≤ c1) x_.1 x_.2.1 x_.2.2) (fun x_ => (fun k p1 c1 => rs.length - k) x_.1 x_.2.1 x_.2.2) (0, p4, c5) [0, 1] (by kernel_rfl) ⟨Nat.zero_le _, Nat.zero_le _⟩ (.cons (rfl) (.cons (rfl) (.cons (rfl) (.cons (rfl) (.cons (rfl) (.nil _)))))) rfl (by decide) ?_
  rintro ⟨k, p1, c1⟩ ⟨(hk : k ≤ rs.length), (hk2 : lenTo rs k ≤ c1)⟩
  show Ev _ _ [(2, .slice none 0 0), (6, .slice p1 (lenTo rs k) c1), (25, .slice p rs.length cap), (26, .int .i64 (rs.length : Int)), (27, .int .i64 (k : Int))] [own 5 1 p1 (lenTo rs k) c1 (catV rs k), base w (Low w)] _
  have hb1 := lenTo_all rs k
  have hb2 := lenTo_all rs (k + 1)
  simp only [lenTo] at hb2
  refine Ev.sr 1 ?_
  refine Rg.p 28 (.binOp .lss 3 (.tmp 27) (.tmp 26) 3) (pv_lss rfl rfl) ?_
  refine Rg.nx (fun _ _ h => h) [28,27,26,25,6,2] rfl ?_
  refine Ev.sq ?_
  refine Ev.cd 28 rfl (fun h7 => ?_) (fun h7 => ?_)
  ·
   have h8 := of_decide_eq_true h7
   refine Ev.sk ?_
   refine At.nx (fun _ _ h => h) [28,27,26,25,6,2] rfl ?_
   refine Ev.sq ?_
   refine Ev.bk 3 ?_
   refine Ev.sr 3 ?_
   have ⟨q6, o7, hp8⟩ := hR.rows.adr (by omega)
   refine Rg.p 29 (.indexAddr 237 (.tmp 25) (.tmp 27)) (v := .pointer (some ⟨q6, o7 + ((k : Int)).toNat * 1, none⟩)) (pv_indexAddr' rfl hp8 rfl (e := 29) (sz := 1) (by kernel_rfl) (by omega) (by omega)) ?_
   refine Rg.p 30 (.load 29 (.tmp 29)) (v := .slice ((rw_ rs k).p) ((rw_ rs k).xs.length) ((rw_ rs k).cap)) (pv_load rfl (by kernel_rfl) (fun w hw => ((hR).keep (hw.at_ 1 rfl) (fun _ h => h)).rows.cell _ _ hp8 _ (by omega) 0 (by decide))) ?_
   refine Rg.as 8 30 rfl ?_
   refine Rg.nx (fun _ _ h => h) [30,29,28,27,26,25,8,6,2] rfl ?_
   refine Ev.rg 4 ?_
   refine Rg.mv 31 6 rfl ?_
   refine Rg.mv 32 8 rfl ?_
   refine rg_append (d := 33) (t := 29) (e := 5) (sz := 1) (x := .tmp 31) (y := .tmp 32) (ty := 29) (g := none) (m := (rw_ rs k).xs.length) (ys := bv ((rw_ rs k).xs)) (zv := .int .u8 0) 0 (by kernel_rfl) (by kernel_rfl) rfl rfl (by kernel_rfl) (by kernel_rfl) (by kernel_rfl) (by kernel_rfl) (by kernel_rfl) rfl rfl (by rw [bv_length, Nat.mul_one]) (bv_one _) (fun w hw => firstCells_bytes (((hR.row k)).keep (hw.at_ 1 rfl) (fun _ h => h))) (by show (2 * ((lenTo rs k) + ((rw_ rs k).xs.length)) + 192) * bytesT Try.prog 5 ≤ 281474976710656; rw [show bytesT Try.prog 5 = 1 from by kernel_rfl]; omega) (by kernel_rfl) ?_
   intro p9 c10 hc_c10 he_c10
   refine Rg.as 6 33 rfl ?_
   refine Rg.nx (fun _ _ h => h) [33,32,31,30,29,28,27,26,25,8,6,2] rfl ?_
   refine Ev.rg 2 ?_
   refine Rg.p 34 (.binOp .add 3 (.tmp 27) (.const (.int .i64 1)) 3) (pv_addb rfl rfl (in_i64 (by omega) (by omega))) ?_
   refine Rg.mv 27 34 rfl ?_
   refine Rg.fin rfl ?_
   refine At.round (t := (k, p1, c1)) (fun _ _ h => h) (k + 1, p9, c10) [0, 1] ⟨(by show k + 1 ≤ rs.length; omega), (by show lenTo rs k + _ ≤ _; exact hc_c10)⟩ (by show rs.length - (k + 1) < rs.length - k; omega) (.cons (rfl) (.cons (rfl) (.cons (rfl) (.cons (rfl) (.cons (rfl) (.nil _)))))) rfl (by decide)
  ·
   have h9 := of_decide_eq_false h7
   refine Ev.xt 2 ?_
   refine At.nx (fun _ _ h => h) [6,2] rfl ?_
   refine Ev.sr 2 ?_
   refine Rg.mv 35 6 rfl ?_
   refine Rg.as 2 35 rfl ?_
   refine Rg.nx (fun _ _ h => h) [2] rfl ?_
   refine Ev.rt ?_
   refine At.via (Q := Q) hQ ?_
   refine At.ret1 rfl rfl rfl ?_
   exact fun w hw => ⟨(p1, c1), (by show lenTo rs rs.length ≤ c1; have e : k = rs.length := (by omega); subst e; exact hk2), (by have e : k = rs.length := (by omega); subst e; rfl), (by have e : k = rs.length := (by omega); subst e; rw [← catV_eq]; exact hw.pick [0, 1] (by decide))⟩

end Go.Proofs.Ytfhhggcdmgjbcaa.Sx

namespace Go.Proofs.Ytfhhggcdmgjbcaa.Sx
open Go Go.RowKit Go.Proofs

set_option maxHeartbeats 8000000 in
theorem Clone_calls {b o : Nat} {xs : List Int} {cap : Nat} {w : World} (hB : BytesAt (Low w) w (some ⟨b, o, none⟩) xs) (hl : xs.length ≤ 4294967296) :
  Calls Try.prog 104 #[.slice (some ⟨b, o, none⟩) xs.length cap] w (RetN w (fun x : Option Addr × Nat => xs.length ≤ x.2) (fun x => .slice x.1 xs.length x.2) (fun x => [own 5 1 x.1 xs.length x.2 (bv xs)])) := by
 refine calls_ofQ (args := [_]) [base w (Low w)] Try.func104 (by kernel_rfl) (by kernel_rfl) (Heap.start w) ?_
 intro Q hQ
 refine Ev.sr 1 ?_
 refine Rg.ac 2 (.slice none 0 0) ?_
 refine Rg.nx (fun _ _ h => h) [2,0] rfl ?_
 refine Ev.sq ?_
 refine Ev.sr 2 ?_
 refine Rg.mv 3 0 rfl ?_
 refine Rg.p 4 (.binOp .eql 29 (.tmp 3) (.const (.slice none 0 0)) 29) (v := .bool false) (pv_eql_nilslice (p := some ⟨b, o, none⟩) rfl rfl (by kernel_rfl)) ?_
 refine Rg.nx (fun _ _ h => h) [4,2,0] rfl ?_
 refine ev_cond_f (t := 4) (by kernel_rfl) rfl ?_
 refine Ev.sk ?_
 refine At.nx (fun _ _ h => h) [2,0] rfl ?_
 refine Ev.sr 4 ?_
 refine rg_buildSlice0 (d := 5) (t := 29) (e := 5) (sz := 1) (g := none) (by kernel_rfl) (by kernel_rfl) (by kernel_rfl) ?_
 intro b1
 refine Rg.mv 6 0 rfl ?_
 refine rg_append (d := 7) (t := 29) (e := 5) (sz := 1) (x := .tmp 5) (y := .tmp 6) (ty := 29) (g := none) (m := xs.length) (ys := bv xs) (zv := .int .u8 0) 0 (by kernel_rfl) (by kernel_rfl) rfl rfl (by kernel_rfl) (by kernel_rfl) (by kernel_rfl) (by kernel_rfl) (by kernel_rfl) rfl rfl (by rw [bv_length, Nat.mul_one]) (bv_one _) (fun w hw => firstCells_bytes ((hB).keep (hw.at_ 1 rfl) (fun _ h => h))) (by show (2 * (0 + xs.length) + 192) * bytesT Try.prog 5 ≤ 281474976710656; rw [show bytesT Try.prog 5 = 1 from by kernel_rfl]; omega) (by kernel_rfl) ?_
 intro p3 c4 hc_c4 he_c4
 refine Rg.as 2 7 rfl ?_
 refine Rg.nx (fun _ _ h => h) [2] rfl ?_
 refine Ev.rt ?_
 refine At.via (Q := Q) hQ ?_
 refine At.ret1 rfl rfl rfl ?_
 exact fun w hw => ⟨(p3, c4), (by have := hc_c4; rw [Nat.zero_add] at this; exact this), (by rw [Nat.zero_add]), (by have h := hw.pick [0, 1] (by decide); rw [Nat.zero_add] at h; exact h)⟩

def hd (node gen : Int) : List Int := [119, 104, 114, 102] ++ putB node ++ putB gen
def hB (node gen : Int) : List Int := hd node gen ++ putB (sumS (hd node gen))

set_option maxHeartbeats 8000000 in
theorem bytes_calls4 {node gen : Int} {w : World} :
  Calls Try.prog 114 #[.int .u32 node, .int .u32 gen] w (Ret w (.agg (bv (hB node gen)).toArray)) := by
 refine calls_ofQ (args := [_, _]) [base w (Low w)] Try.func114 (by kernel_rfl) (by kernel_rfl) (Heap.start w) ?_
 intro Q hQ
 refine Ev.sr 1 ?_
 refine Rg.al 4 195 (.agg #[.int .u8 0, .int .u8 0, .int .u8 0, .int .u8 0, .int .u8 0, .int .u8 0, .int .u8 0, .int .u8 0, .int .u8 0, .int .u8 0, .int .u8 0, .int .u8 0, .int .u8 0, .int .u8 0, .int .u8 0, .int .u8 0]) fun b1 => ?_
 refine Rg.nx (fun _ _ h => h) [4,1,0] rfl ?_
 refine Ev.sr 9 ?_
 refine rg_buildSlice (d := 6) (t := 29) (e := 5) (sz := 1) (len := 4) (parts := [(0, .const (.int .u8 119)), (1, .const (.int .u8 104)), (2, .const (.int .u8 114)), (3, .const (.int .u8 102))]) (g := none) (vs := [.int .u8 119, .int .u8 104, .int .u8 114, .int .u8 102]) (cs := #[.int .u8 119, .int .u8 104, .int .u8 114, .int .u8 102]) (by kernel_rfl) (by kernel_rfl) rfl (by kernel_rfl) (.int .u8 0) (by kernel_rfl) (by kernel_rfl) (by kernel_rfl) ?_
 intro b2
 refine rg_convert_row (d := 7) (t := 29) (e := 5) (x := .tmp 6) (g := none) 0 (by kernel_rfl) (by kernel_rfl) rfl (by kernel_rfl) (by kernel_rfl) rfl ?_
 refine Rg.mv 8 0 rfl ?_
 refine Rg.cn (T := Option Addr × Nat) (some 9) 84 #[.tmp 8] #[23] (v := fun ⟨p3, c4⟩ => .slice p3 4 c4) (L := fun ⟨p3, c4⟩ => [own 5 1 p3 4 c4 (bv (putB node))]) rfl (fun w hw => Put_calls) ?_
 rintro ⟨p3, c4⟩ hc_c4
 dsimp only [putE, List.append, HAppend.hAppend, Append.append]
 have hk_c4 : 4 ≤ c4 := hc_c4
 refine Rg.mv 10 1 rfl ?_
 refine Rg.cn (T := Option Addr × Nat) (some 11) 84 #[.tmp 10] #[23] (v := fun ⟨p6, c7⟩ => .slice p6 4 c7) (L := fun ⟨p6, c7⟩ => [own 5 1 p6 4 c7 (bv (putB gen))]) rfl (fun w hw => Put_calls) ?_
 rintro ⟨p6, c7⟩ hc_c7
 dsimp only [putE, List.append, HAppend.hAppend, Append.append]
 have hk_c7 : 4 ≤ c7 := hc_c7
 refine rg_buildSlice (d := 12) (t := 237) (e := 29) (sz := 1) (len := 3) (parts := [(0, .tmp 7), (1, .tmp 9), (2, .tmp 11)]) (g := none) (vs := [.slice (some ⟨b2, 0, none⟩) 4 4, .slice p3 4 c4, .slice p6 4 c7]) (cs := #[.slice (some ⟨b2, 0, none⟩) 4 4, .slice p3 4 c4, .slice p6 4 c7]) (by kernel_rfl) (by kernel_rfl) rfl (by kernel_rfl) (.slice none 0 0) (by kernel_rfl) (by kernel_rfl) (by kernel_rfl) ?_
 intro b9
 refine Rg.cn (T := Option Addr × Nat) (some 13) 123 #[.tmp 12] #[237] (v := fun ⟨p10, c11⟩ => .slice p10 12 c11) (L := fun ⟨p10, c11⟩ => [own 5 1 p10 12 c11 (bv (hd node gen))]) rfl (fun w hw => Concat_calls (slicesAt_of hw 0 [⟨some ⟨b2, 0, none⟩, 4, [119, 104, 114, 102]⟩, ⟨p3, c4, (putB node)⟩, ⟨p6, c7, (putB gen)⟩] rfl rfl (by intro r hr; simp only [List.mem_cons, List.not_mem_nil, or_false] at hr; rcases hr with rfl | rfl | rfl <;> first | exact blk_bytes hw 3 [119, 104, 114, 102] rfl rfl | exact own_bytes hw 2 rfl | exact own_bytes hw 1 rfl)) (by show 3 ≤ 1048576; omega) (by show 12 ≤ 1073741824; omega)) ?_
 rintro ⟨p10, c11⟩ hc_c11
 dsimp only [putE, List.append, HAppend.hAppend, Append.append]
 have hk_c11 : 12 ≤ c11 := hc_c11
 refine Rg.as 5 13 rfl ?_
 refine Rg.nx (fun _ _ h => h) [5,4] rfl ?_
 refine Ev.sr 9 ?_
 refine Rg.mv 14 5 rfl ?_
 refine Rg.mv 15 5 rfl ?_
 refine Rg.cl (some 16) 151 #[.tmp 15] #[29] (v := .int .u32 (sumS (hd node gen))) rfl (fun w hw => sum_calls (own_bytes hw 0 rfl) (by show 12 ≤ _; omega)) ?_
 refine Rg.cn (T := Option Addr × Nat) (some 17) 84 #[.tmp 16] #[23] (v := fun ⟨p13, c14⟩ => .slice p13 4 c14) (L := fun ⟨p13, c14⟩ => [own 5 1 p13 4 c14 (bv (putB (sumS (hd node gen))))]) rfl (fun w hw => Put_calls) ?_
 rintro ⟨p13, c14⟩ hc_c14
 dsimp only [putE, List.append, HAppend.hAppend, Append.append]
 have hk_c14 : 4 ≤ c14 := hc_c14
 refine rg_buildSlice (d := 18) (t := 237) (e := 29) (sz := 1) (len := 2) (parts := [(0, .tmp 14), (1, .tmp 17)]) (g := none) (vs := [.slice p10 12 c11, .slice p13 4 c14]) (cs := #[.slice p10 12 c11, .slice p13 4 c14]) (by kernel_rfl) (by kernel_rfl) rfl (by kernel_rfl) (.slice none 0 0) (by kernel_rfl) (by kernel_rfl) (by kernel_rfl) ?_
 intro b16
 refine Rg.cn (T := Option Addr × Nat) (some 19) 123 #[.tmp 18] #[237] (v := fun ⟨p17, c18⟩ => .slice p17 16 c18) (L := fun ⟨p17, c18⟩ => [own 5 1 p17 16 c18 (bv (hB node gen))]) rfl (fun w hw => Concat_calls (slicesAt_of hw 0 [⟨p10, c11, (hd node gen)⟩, ⟨p13, c14, (putB (sumS (hd node gen)))⟩] rfl rfl (by intro r hr; simp only [List.mem_cons, List.not_mem_nil, or_false] at hr; rcases hr with rfl | rfl <;> first | exact own_bytes hw 2 rfl | exact own_bytes hw 1 rfl)) (by show 2 ≤ 1048576; omega) (by show 16 ≤ 1073741824; omega)) ?_
 rintro ⟨p17, c18⟩ hc_c18
 dsimp only [putE, List.append, HAppend.hAppend, Append.append]
 have hk_c18 : 16 ≤ c18 := hc_c18
 refine Rg.p 20 (.sliceToArrayPointer 195 (.tmp 19)) (v := .pointer p17) (pv_arrPtr (m := 16) (e := 5) rfl (by kernel_rfl) (by omega)) ?_
 refine Rg.p 21 (.load 195 (.tmp 20)) (v := .agg ((bv (hB node gen)).toArray)) (pv_load_arr (m := 16) rfl (by omega) (rfl) (by kernel_rfl) (by kernel_rfl) (fun w hw => own_bytes hw 0 rfl)) ?_
 refine Rg.st 195 4 (.tmp 21) 8 ((bv (hB node gen)).toArray) rfl rfl rfl ?_
 refine Rg.nx (fun _ _ h => h) [4] rfl ?_
 refine Ev.rt ?_
 refine At.via (Q := Q) hQ ?_
 refine At.retCell rfl rfl (reads_cellA 8 rfl rfl (by kernel_rfl) (by kernel_rfl)) ?_
 exact fun w hw => ⟨rfl, hw.base_below 9 rfl⟩

set_option maxHeartbeats 8000000 in
theorem hPut_calls {n gen : Int} {w : World} (hn1 : 1 ≤ n) (hn2 : n ≤ 1024) :
  Calls Try.prog 61 #[.agg #[.int .i64 n, .int .u32 gen]] w (RetN w (fun x : Option Addr × Nat => 16 ≤ x.2) (fun x => .tuple #[.slice x.1 16 x.2, .int .i64 0]) (fun x => [own 5 1 x.1 16 x.2 (bv (hB n gen))])) := by
 refine calls_ofQ (args := [_]) [base w (Low w)] Try.func61 (by kernel_rfl) (by kernel_rfl) (Heap.start w) ?_
 intro Q hQ
 refine Ev.sr 3 ?_
 refine Rg.bx 1 132 (.tmp 0) rfl fun b1 => ?_
 refine Rg.ac 2 (.slice none 0 0) ?_
 refine Rg.ac 3 (.int .i64 0) ?_
 refine Rg.nx (fun _ _ h => h) [3,2,1] rfl ?_
 refine Ev.sq ?_
 refine Ev.sr 8 ?_
 refine Rg.fa 5 132 1 0 0 rfl ?_
 refine Rg.ld 6 3 5 0 rfl rfl rfl ?_
 refine Rg.p 7 (.binOp .lss 3 (.tmp 6) (.const (.int .i64 1)) 3) (pv_lss rfl rfl) ?_
 refine Rg.know 7 (b := decide (n < 1)) (c := false) rfl (decide_eq_false (by omega)) ?_
 refine Rg.mv 8 7 rfl ?_
 refine Rg.pg 3 false 9 (.fieldAddr 132 (.tmp 1) 0) (pv_fieldAddr rfl (n := 0) (by kernel_rfl)) ?_
 refine Rg.pg 3 false 10 (.load 3 (.tmp 9)) (v := .int .i64 n) (pv_load_blk 0 rfl rfl (by kernel_rfl) rfl) ?_
 refine Rg.pg 3 false 11 (.binOp .gtr 3 (.tmp 10) (.const (.int .i64 1024)) 3) (pv_gtr rfl rfl) ?_
 refine Rg.know 11 (b := decide (1024 < n)) (c := false) rfl (decide_eq_false (by omega)) ?_
 refine Rg.p 12 (.pick (.tmp 8) (.const (.bool true)) (.tmp 11)) (pv_pick_f rfl rfl) ?_
 refine Rg.nx (fun _ _ h => h) [12,3,2,1] rfl ?_
 refine ev_cond_f (t := 12) (by kernel_rfl) rfl ?_
 refine Ev.sk ?_
 refine At.nx (fun _ _ h => h) [3,2,1] rfl ?_
 refine Ev.sr 8 ?_
 refine Rg.fa 13 132 1 0 0 rfl ?_
 refine Rg.ld 14 3 13 0 rfl rfl rfl ?_
 refine Rg.p 15 (.convert 3 23 (.tmp 14)) (pv_convertb (q' := .u32) rfl (by kernel_rfl) (by kernel_rfl) (in_u32 (by omega) (by omega))) ?_
 refine Rg.fa 16 132 1 1 1 rfl ?_
 refine Rg.ld 17 23 16 0 rfl rfl rfl ?_
 refine Rg.cl (some 18) 114 #[.tmp 15, .tmp 17] #[23, 23] (v := .agg ((bv (hB n gen)).toArray)) rfl (fun w hw => bytes_calls4) ?_
 refine Rg.al 4 195 (.agg #[.int .u8 0, .int .u8 0, .int .u8 0, .int .u8 0, .int .u8 0, .int .u8 0, .int .u8 0, .int .u8 0, .int .u8 0, .int .u8 0, .int .u8 0, .int .u8 0, .int .u8 0, .int .u8 0, .int .u8 0, .int .u8 0]) fun b2 => ?_
 refine Rg.st 195 4 (.tmp 18) 0 ((bv (hB n gen)).toArray) rfl rfl rfl ?_
 refine Rg.nx (fun _ _ h => h) [4,3,2] rfl ?_
 refine Ev.sr 4 ?_
 refine Rg.p 19 (.slice 195 (.tmp 4) none none none) (v := .slice (some ⟨b2, 0, none⟩) 16 16) (pv_slice_arr (e := 5) rfl (by kernel_rfl) (by kernel_rfl)) ?_
 refine Rg.cn (T := Option Addr × Nat) (some 20) 104 #[.tmp 19] #[29] (v := fun ⟨p3, c4⟩ => .slice p3 16 c4) (L := fun ⟨p3, c4⟩ => [own 5 1 p3 16 c4 (bv (hB n gen))]) rfl (fun w hw => Clone_calls (blk_bytes hw 0 (hB n gen) rfl rfl) (by show 16 ≤ _; omega)) ?_
 rintro ⟨p3, c4⟩ hc_c4
 dsimp only [putE, List.append, HAppend.hAppend, Append.append]
 have hk_c4 : 16 ≤ c4 := hc_c4
 refine Rg.as 2 20 rfl ?_
 refine Rg.ac 3 (.int .i64 0) ?_
 refine Rg.nx (fun _ _ h => h) [3,2] rfl ?_
 refine Ev.rt ?_
 refine At.via (Q := Q) hQ ?_
 refine At.ret2 rfl rfl rfl rfl ?_
 exact fun w hw => ⟨(p3, c4), by first | assumption | (show _ ≤ _; omega), rfl, hw.pick [0, 3] (by decide)⟩

def getH (xs : List Int) : Int × Int × Int :=
  if xs.length ≠ 16 then (0, 0, 5) else
  if getN (xs.drop 4) < 1 ∨ 1024 < getN (xs.drop 4) ∨ hB (getN (xs.drop 4)) (getN (xs.drop 8)) ≠ xs then (0, 0, 5) else (getN (xs.drop 4), getN (xs.drop 8), 0)

set_option maxHeartbeats 8000000 in
theorem hGet_calls {p : Option Addr} {xs : List Int} {cap : Nat} {w : World} (hB_ : BytesAt (Low w) w p xs) (hl : xs.length ≤ 4294967296) (hc : xs.length ≤ cap) :
  Calls Try.prog 62 #[.slice p xs.length cap] w (Ret w (.tuple #[.agg #[.int .i64 (getH xs).1, .int .u32 (getH xs).2.1], .int .i64 (getH xs).2.2])) := by
 refine calls_ofQ (args := [_]) [base w (Low w)] Try.func62 (by kernel_rfl) (by kernel_rfl) (Heap.start w) ?_
 intro Q hQ
 refine Ev.sr 2 ?_
 refine Rg.al 2 132 (.agg #[.int .i64 0, .int .u32 0]) fun b1 => ?_
 refine Rg.ac 3 (.int .i64 0) ?_
 refine Rg.nx (fun _ _ h => h) [3,2,0] rfl ?_
 refine Ev.sq ?_
 refine Ev.sr 3 ?_
 refine Rg.mv 8 0 rfl ?_
 refine Rg.p 9 (.call { callee := .builtin .len, args := #[.tmp 8], argTypes := #[29] }) (pv_len_slice rfl (by kernel_rfl)) ?_
 refine Rg.p 10 (.binOp .neq 3 (.tmp 9) (.const (.int .i64 16)) 3) (pv_neq rfl rfl) ?_
 refine Rg.nx (fun _ _ h => h) [10,3,2,0] rfl ?_
 refine Ev.cd 10 rfl (fun h1 => ?_) (fun h1 => ?_)
 ·
  have h2 := of_decide_eq_false (not_t h1)
  refine Ev.sr 3 ?_
  refine Rg.p 11 (.build 132 #[]) (v := .agg #[.int .i64 0, .int .u32 0]) (pv_build (parts := []) (vs := []) (fs := [(0, 1), (1, 1)]) (zv := .agg #[.int .i64 0, .int .u32 0]) (cs := #[.int .i64 0, .int .u32 0]) rfl (by kernel_rfl) (by kernel_rfl) (by kernel_rfl)) ?_
  refine Rg.st 132 2 (.tmp 11) 0 #[.int .i64 0, .int .u32 0] rfl rfl rfl ?_
  refine Rg.ac 3 (.int .i64 5) ?_
  refine Rg.nx (fun _ _ h => h) [3,2,0] rfl ?_
  refine Ev.rt ?_
  refine At.via (Q := Q) hQ ?_
  refine At.retCell2 rfl rfl (reads_cellA 0 rfl rfl (by kernel_rfl) (by kernel_rfl)) (reads_tmp rfl) ?_
  exact fun w hw => ⟨(by unfold getH; rw [if_pos (by omega)]), hw.base_below 1 rfl⟩
 ·
  have h3 := of_decide_eq_true (not_f h1)
  refine Ev.sk ?_
  refine At.nx (fun _ _ h => h) [3,2,0] rfl ?_
  refine Ev.sr 8 ?_
  refine Rg.mv 13 0 rfl ?_
  refine Rg.p 14 (.slice 29 (.tmp 13) (some (.const (.int .i64 4))) none none) (v := .slice (subP p cap ((4 : Int).toNat) 1) (xs.length - ((4 : Int).toNat)) (cap - ((4 : Int).toNat))) (pv_slice_lo rfl rfl (e := 5) (sz := 1) (by kernel_rfl) (by omega) (by omega)) ?_
  refine Rg.cl (some 15) 115 #[.tmp 14] #[29] (v := .tuple #[.int .u32 (getN (xs.drop 4)), .int .i64 (getE (xs.drop 4))]) rfl (fun w hw => (by have h := Get_calls (cap := cap - 4) (BytesAt.drop (l := 4) (((hB_).keep (hw.at_ 1 rfl) (fun k hk => hw.lt 1 rfl hk))) (by omega)) (by rw [List.length_drop]; omega) (by rw [List.length_drop]; omega); rw [List.length_drop] at h; exact h)) ?_
  refine Rg.mv 12 15 rfl ?_
  refine Rg.ex 16 12 0 rfl rfl ?_
  refine Rg.ex 17 12 1 rfl rfl ?_
  refine Rg.as 4 16 rfl ?_
  refine Rg.as 5 17 rfl ?_
  refine Rg.nx (fun _ _ h => h) [4,3,2,0] rfl ?_
  refine Ev.sr 8 ?_
  refine Rg.mv 19 0 rfl ?_
  refine Rg.p 20 (.slice 29 (.tmp 19) (some (.const (.int .i64 8))) none none) (v := .slice (subP p cap ((8 : Int).toNat) 1) (xs.length - ((8 : Int).toNat)) (cap - ((8 : Int).toNat))) (pv_slice_lo rfl rfl (e := 5) (sz := 1) (by kernel_rfl) (by omega) (by omega)) ?_
  refine Rg.cl (some 21) 115 #[.tmp 20] #[29] (v := .tuple #[.int .u32 (getN (xs.drop 8)), .int .i64 (getE (xs.drop 8))]) rfl (fun w hw => (by have h := Get_calls (cap := cap - 8) (BytesAt.drop (l := 8) (((hB_).keep (hw.at_ 1 rfl) (fun k hk => hw.lt 1 rfl hk))) (by omega)) (by rw [List.length_drop]; omega) (by rw [List.length_drop]; omega); rw [List.length_drop] at h; exact h)) ?_
  refine Rg.mv 18 21 rfl ?_
  refine Rg.ex 22 18 0 rfl rfl ?_
  refine Rg.ex 23 18 1 rfl rfl ?_
  refine Rg.as 6 22 rfl ?_
  refine Rg.as 7 23 rfl ?_
  refine Rg.nx (fun _ _ h => h) [6,4,3,2,0] rfl ?_
  refine Ev.sq ?_
  refine Ev.sq ?_
  refine ev_quiet (n := 15) (E' := [(2, .pointer (some ⟨b1, 0, none⟩)), (3, .int .i64 0), (4, .int .u32 (getN (xs.drop 4))), (6, .int .u32 (getN (xs.drop 8))), (38, .bool (((decide ((getN (xs.drop 4)) < 1)) || (decide (1024 < (getN (xs.drop 4))))) || (!(decide ((hB (getN (xs.drop 4)) (getN (xs.drop 8))) = xs)))))]) (by kernel_rfl) (by kernel_rfl) ?_ ?_
  ·
   refine Qg.pure (d := 24) (op := .move (.tmp 4)) (g := none) (v := .int .u32 (getN (xs.drop 4))) (by kernel_rfl) (by kernel_rfl) (pv_move rfl) ?_
   refine Qg.pure (d := 25) (op := .binOp .lss 23 (.tmp 24) (.const (.int .u32 1)) 23) (g := none) (v := .bool (decide ((getN (xs.drop 4)) < 1))) (by kernel_rfl) (by kernel_rfl) (pv_lss rfl rfl) ?_
   refine Qg.pure (d := 26) (op := .move (.tmp 25)) (g := none) (v := .bool (decide ((getN (xs.drop 4)) < 1))) (by kernel_rfl) (by kernel_rfl) (pv_move rfl) ?_
   refine Qg.split 6 [(29, .bool ((decide ((getN (xs.drop 4)) < 1)) || (decide (1024 < (getN (xs.drop 4)))))), (0, .slice p xs.length cap), (2, .pointer (some ⟨b1, 0, none⟩)), (3, .int .i64 0), (4, .int .u32 (getN (xs.drop 4))), (6, .int .u32 (getN (xs.drop 8)))] [blk b1 (.cells #[.int .i64 0, .int .u32 0] 132 (0, 0)), base w (Low w)] (s := 26) (g := decide ((getN (xs.drop 4)) < 1)) rfl (by decide) (fun h4 => ?_) (fun h4 => ?_) ?_
   ·
    refine Qg.skips 5 (by kernel_rfl) ?_
    refine Qg.pure (d := 29) (op := .pick (.tmp 26) (.const (.bool true)) (.tmp 28)) (g := none) (v := .bool true) (by kernel_rfl) (by kernel_rfl) (pv_pick_t rfl rfl) ?_
    exact Qg.mid (.cons (or_of_t h4 rfl) (.cons (rfl) (.cons (rfl) (.cons (rfl) (.cons (rfl) (.cons (rfl) (.nil _))))))) rfl
   ·
    have h5 := of_decide_eq_false h4
    refine Qg.pure (d := 27) (op := .move (.tmp 4)) (g := some (2, false)) (v := .int .u32 (getN (xs.drop 4))) (by kernel_rfl) (by kernel_rfl) (pv_move rfl) ?_
    refine Qg.pure (d := 28) (op := .binOp .gtr 23 (.tmp 27) (.const (.int .u32 1024)) 23) (g := some (2, false)) (v := .bool (decide (1024 < (getN (xs.drop 4))))) (by kernel_rfl) (by kernel_rfl) (pv_gtr rfl rfl) ?_
    refine Qg.pure (d := 29) (op := .pick (.tmp 26) (.const (.bool true)) (.tmp 28)) (g := none) (v := .bool (decide (1024 < (getN (xs.drop 4))))) (by kernel_rfl) (by kernel_rfl) (pv_pick_f rfl rfl) ?_
    exact Qg.mid (.cons (or_of_f h4 rfl) (.cons (rfl) (.cons (rfl) (.cons (rfl) (.cons (rfl) (.cons (rfl) (.nil _))))))) rfl
   refine Qg.pure (d := 30) (op := .move (.tmp 29)) (g := none) (v := .bool ((decide ((getN (xs.drop 4)) < 1)) || (decide (1024 < (getN (xs.drop 4)))))) (by kernel_rfl) (by kernel_rfl) (pv_move rfl) ?_
   refine Qg.split 15 [(38, .bool (((decide ((getN (xs.drop 4)) < 1)) || (decide (1024 < (getN (xs.drop 4))))) || (!(decide ((hB (getN (xs.drop 4)) (getN (xs.drop 8))) = xs))))), (2, .pointer (some ⟨b1, 0, none⟩)), (3, .int .i64 0), (4, .int .u32 (getN (xs.drop 4))), (6, .int .u32 (getN (xs.drop 8)))] [blk b1 (.cells #[.int .i64 0, .int .u32 0] 132 (0, 0)), base w (Low w)] (s := 30) (g := (decide ((getN (xs.drop 4)) < 1)) || (decide (1024 < (getN (xs.drop 4))))) rfl (by decide) (fun h6 => ?_) (fun h6 => ?_) ?_
   ·
    refine Qg.skips 14 (by kernel_rfl) ?_
    refine Qg.pure (d := 38) (op := .pick (.tmp 30) (.const (.bool true)) (.tmp 37)) (g := none) (v := .bool true) (by kernel_rfl) (by kernel_rfl) (pv_pick_t rfl rfl) ?_
    exact Qg.mid (.cons (or_of_t h6 rfl) (.cons (rfl) (.cons (rfl) (.cons (rfl) (.cons (rfl) (.nil _)))))) rfl
   ·
    have ⟨h7, h8⟩ := or_f h6
    have h9 := of_decide_eq_false h7
    have h10 := of_decide_eq_false h8
    refine Qg.pure (d := 31) (op := .move (.tmp 4)) (g := some (6, false)) (v := .int .u32 (getN (xs.drop 4))) (by kernel_rfl) (by kernel_rfl) (pv_move rfl) ?_
    refine Qg.pure (d := 32) (op := .move (.tmp 6)) (g := some (6, false)) (v := .int .u32 (getN (xs.drop 8))) (by kernel_rfl) (by kernel_rfl) (pv_move rfl) ?_
    refine qg_call (d := some 33) (f := 114) (xs := #[.tmp 31, .tmp 32]) (ts := #[23, 23]) (g := some (6, false)) (v := .agg ((bv (hB (getN (xs.drop 4)) (getN (xs.drop 8)))).toArray)) (by kernel_rfl) (by kernel_rfl) (by kernel_rfl) rfl (fun w hw => bytes_calls4) ?_
    refine Qg.pure (d := 34) (op := .move (.tmp 0)) (g := some (6, false)) (v := .slice p xs.length cap) (by kernel_rfl) (by kernel_rfl) (pv_move rfl) ?_
    refine Qg.pure (d := 35) (op := .sliceToArrayPointer 195 (.tmp 34)) (g := some (6, false)) (v := .pointer p) (by kernel_rfl) (by kernel_rfl) (pv_arrPtr (m := 16) (e := 5) rfl (by kernel_rfl) (by omega)) ?_
    refine Qg.pure (d := 36) (op := .load 195 (.tmp 35)) (g := some (6, false)) (v := .agg ((bv xs).toArray)) (by kernel_rfl) (by kernel_rfl) (pv_load_arr (m := 16) rfl (by omega) (by omega) (by kernel_rfl) (by kernel_rfl) (fun w hw => ((hB_).keep (hw.at_ 1 rfl) (fun k hk => hw.lt 1 rfl hk)))) ?_
    refine Qg.pure (d := 37) (op := .binOp .neq 195 (.tmp 33) (.tmp 36) 195) (g := some (6, false)) (v := .bool (!(decide ((hB (getN (xs.drop 4)) (getN (xs.drop 8))) = xs)))) (by kernel_rfl) (by kernel_rfl) (pv_neq_arr (n := 16) (e := 5) (q := .u8) rfl rfl (by kernel_rfl) (by kernel_rfl) (by kernel_rfl) (by kernel_rfl) (rfl) (by omega)) ?_
    refine Qg.pure (d := 38) (op := .pick (.tmp 30) (.const (.bool true)) (.tmp 37)) (g := none) (v := .bool (!(decide ((hB (getN (xs.drop 4)) (getN (xs.drop 8))) = xs)))) (by kernel_rfl) (by kernel_rfl) (pv_pick_f rfl rfl) ?_
    exact Qg.mid (.cons (or_of_f h6 rfl) (.cons (rfl) (.cons (rfl) (.cons (rfl) (.cons (rfl) (.nil _)))))) rfl
   exact Qg.mid (.cons rfl (.cons rfl (.cons rfl (.cons rfl (.cons rfl (.nil _)))))) rfl
  refine At.nx (fun _ _ h => h) [38,6,4,3,2] rfl ?_
  refine Ev.cd 38 rfl (fun h11 => ?_) (fun h11 => ?_)
  ·
   refine Ev.sr 3 ?_
   refine Rg.p 39 (.build 132 #[]) (v := .agg #[.int .i64 0, .int .u32 0]) (pv_build (parts := []) (vs := []) (fs := [(0, 1), (1, 1)]) (zv := .agg #[.int .i64 0, .int .u32 0]) (cs := #[.int .i64 0, .int .u32 0]) rfl (by kernel_rfl) (by kernel_rfl) (by kernel_rfl)) ?_
   refine Rg.st 132 2 (.tmp 39) 0 #[.int .i64 0, .int .u32 0] rfl rfl rfl ?_
   refine Rg.ac 3 (.int .i64 5) ?_
   refine Rg.nx (fun _ _ h => h) [6,4,3,2] rfl ?_
   refine Ev.rt ?_
   refine At.via (Q := Q) hQ ?_
   refine At.retCell2 rfl rfl (reads_cellA 0 rfl rfl (by kernel_rfl) (by kernel_rfl)) (reads_tmp rfl) ?_
   exact fun w hw => ⟨(by unfold getH; rw [if_neg (by omega), if_pos (by simpa [or_assoc] using h11)]), hw.base_below 1 rfl⟩
  ·
   have ⟨h12, h13⟩ := or_f h11
   have ⟨h14, h15⟩ := or_f h12
   have h16 := of_decide_eq_false h14
   have h17 := of_decide_eq_false h15
   have h18 := of_decide_eq_true (not_f h13)
   refine Ev.sk ?_
   refine At.nx (fun _ _ h => h) [6,4,3,2] rfl ?_
   refine Ev.sr 6 ?_
   refine Rg.mv 40 4 rfl ?_
   refine Rg.p 41 (.convert 23 3 (.tmp 40)) (pv_convertb (q' := .i64) rfl (by kernel_rfl) (by kernel_rfl) (in_i64 (by omega) (by omega))) ?_
   refine Rg.mv 42 6 rfl ?_
   refine Rg.p 43 (.build 132 #[(0, .tmp 41), (1, .tmp 42)]) (v := .agg #[.int .i64 (getN (xs.drop 4)), .int .u32 (getN (xs.drop 8))]) (pv_build (parts := [(0, .tmp 41), (1, .tmp 42)]) (vs := [.int .i64 (getN (xs.drop 4)), .int .u32 (getN (xs.drop 8))]) (fs := [(0, 1), (1, 1)]) (zv := .agg #[.int .i64 0, .int .u32 0]) (cs := #[.int .i64 (getN (xs.drop 4)), .int .u32 (getN (xs.drop 8))]) rfl (by kernel_rfl) (by kernel_rfl) (by kernel_rfl)) ?_
   refine Rg.st 132 2 (.tmp 43) 0 #[.int .i64 (getN (xs.drop 4)), .int .u32 (getN (xs.drop 8))] rfl rfl rfl ?_
   refine Rg.ac 3 (.int .i64 0) ?_
   refine Rg.nx (fun _ _ h => h) [3,2] rfl ?_
   refine Ev.rt ?_
   refine At.via (Q := Q) hQ ?_
   refine At.retCell2 rfl rfl (reads_cellA 0 rfl rfl (by kernel_rfl) (by kernel_rfl)) (reads_tmp rfl) ?_
   exact fun w hw => ⟨(by unfold getH; rw [if_neg (by omega), if_neg (by simpa [not_or, and_assoc] using h11)]), hw.base_below 1 rfl⟩

end Go.Proofs.Ytfhhggcdmgjbcaa.Sx

namespace Go.Proofs.Ytfhhggcdmgjbcaa.Sx
open Go Go.RowKit Go.Proofs

def Odd (s : ByteArray) (odd : List Int) : Prop := ∃ k, k < odd.length ∧ ∃ i, i < s.size ∧ sb s i = odd.getD k 0
open Classical in
noncomputable def oddB (s : ByteArray) (odd : List Int) : Bool := decide (Odd s odd ∨ s = ⟨#[]⟩)
theorem oddB_t {s : ByteArray} {odd : List Int} (h : Odd s odd) : oddB s odd = true := by simp [oddB, h]
theorem oddB_e {s : ByteArray} {odd : List Int} (h : ¬ Odd s odd) : oddB s odd = decide (s = ⟨#[]⟩) := by simp [oddB, h]
noncomputable def statS (s : ByteArray) (odd : List Int) (mx : Int) : Int := if oddB s odd = true then 22 else if mx < (s.size : Int) then 63 else 0

set_option maxHeartbeats 8000000 in
theorem without1_calls {s : ByteArray} {bo c : Nat} {p : Option Addr} {odd : List Int} {w : World} (hO : w.heap[bo]? = some (.cells #[.slice p odd.length c] 29 (0, 0))) (hB : BytesAt (Low w) w p odd) (hol : odd.length ≤ 1024) (hs : s.size ≤ 16777216) :
  Calls Try.prog 170 #[.string s, .pointer (some ⟨bo, 0, none⟩)] w (Ret w (.bool (oddB s odd))) := by
 refine calls_ofQ (args := [_, _]) [base w (Low w)] Try.func170 (by kernel_rfl) (by kernel_rfl) (Heap.start w) ?_
 intro Q hQ
 refine Ev.sr 1 ?_
 refine Rg.ac 3 (.bool false) ?_
 refine Rg.nx (fun _ _ h => h) [3,1,0] rfl ?_
 refine Ev.sq ?_
 refine Ev.sr 3 ?_
 refine Rg.p 7 (.load 29 (.tmp 1)) (v := .slice p odd.length c) (pv_load_base 0 rfl rfl rfl hO (by kernel_rfl) rfl) ?_
 refine Rg.p 8 (.call { callee := .builtin .len, args := #[.tmp 7], argTypes := #[29] }) (pv_len_slice rfl (by kernel_rfl)) ?_
 refine Rg.mc 9 (.int .i64 0) ?_
 refine Rg.nx (fun _ _ h => h) [9,8,7,3,0] rfl ?_
 refine Ev.bk 0 ?_
 refine ev_loop (T := Nat) (fun k => [(0, .string s), (3, .bool false), (7, .slice p odd.length c), (8, .int .i64 (odd.length : Int)), (9, .int .i64 (k : Int))]) (fun k => [base w (Low w)]) (fun k => k ≤ odd.length ∧ ∀ k_, k_ < k → ∀ i_, i_ < s.size → sb s i_ ≠ odd.getD k_ 0) (fun k => odd.length - k) 0 [0] (by kernel_rfl) ⟨Nat.zero_le _, fun k_ h_ => absurd h_ (Nat.not_lt_zero _)⟩ (.cons (rfl) (.cons (rfl) (.cons (rfl) (.cons (rfl) (.cons (rfl) (.nil _)))))) rfl (by decide) ?_
 rintro k ⟨(hk : k ≤ odd.length), (hno : ∀ k_, k_ < k → ∀ i_, i_ < s.size → sb s i_ ≠ odd.getD k_ 0)⟩
 show Ev _ _ [(0, .string s), (3, .bool false), (7, .slice p odd.length c), (8, .int .i64 (odd.length : Int)), (9, .int .i64 (k : Int))] [base w (Low w)] _
 refine Ev.sr 1 ?_
 refine Rg.p 10 (.binOp .lss 3 (.tmp 9) (.tmp 8) 3) (pv_lss rfl rfl) ?_
 refine Rg.nx (fun _ _ h => h) [10,9,8,7,3,0] rfl ?_
 refine Ev.sq ?_
 refine Ev.cd 10 rfl (fun h1 => ?_) (fun h1 => ?_)
 ·
  have h2 := of_decide_eq_true h1
  refine Ev.sk ?_
  refine At.nx (fun _ _ h => h) [10,9,8,7,3,0] rfl ?_
  refine Ev.sq ?_
  refine Ev.bk 1 ?_
  refine Ev.sr 3 ?_
  have ⟨q1, o2, hp3⟩ := hB.adr (by omega)
  refine Rg.p 11 (.indexAddr 29 (.tmp 7) (.tmp 9)) (v := .pointer (some ⟨q1, o2 + ((k : Int)).toNat * 1, none⟩)) (pv_indexAddr' rfl hp3 rfl (e := 5) (sz := 1) (by kernel_rfl) (by omega) (by omega)) ?_
  refine Rg.p 12 (.load 5 (.tmp 11)) (v := .int .u8 ((odd).getD k 0)) (pv_load rfl (by kernel_rfl) (fun w hw => ((hB).keep (hw.at_ 0 rfl) (fun _ h => h)).cell _ _ hp3 _ (by omega) 0 (by decide))) ?_
  refine Rg.as 5 12 rfl ?_
  refine Rg.nx (fun _ _ h => h) [12,11,10,9,8,7,5,3,0] rfl ?_
  refine Ev.sr 3 ?_
  refine Rg.mv 13 0 rfl ?_
  refine Rg.p 14 (.call { callee := .builtin .len, args := #[.tmp 13], argTypes := #[9] }) (pv_len_string rfl (by kernel_rfl)) ?_
  refine Rg.mc 15 (.int .i64 0) ?_
  refine Rg.nx (fun _ _ h => h) [15,14,13,12,11,10,9,8,7,5,3,0] rfl ?_
  refine Ev.bk 2 ?_
  refine ev_loop (T := Nat) (fun i => [(0, .string s), (3, .bool false), (5, .int .u8 (odd.getD k 0)), (7, .slice p odd.length c), (8, .int .i64 (odd.length : Int)), (9, .int .i64 (k : Int)), (14, .int .i64 (s.size : Int)), (15, .int .i64 (i : Int))]) (fun i => [base w (Low w)]) (fun i => i ≤ s.size ∧ ∀ i_, i_ < i → sb s i_ ≠ odd.getD k 0) (fun i => s.size - i) 0 [0] (by kernel_rfl) ⟨Nat.zero_le _, fun i_ h_ => absurd h_ (Nat.not_lt_zero _)⟩ (.cons (rfl) (.cons (rfl) (.cons (rfl) (.cons (rfl) (.cons (rfl) (.cons (rfl) (.cons (rfl) (.cons (rfl) (.nil _))))))))) rfl (by decide) ?_
  rintro i ⟨(hi : i ≤ s.size), (hn2 : ∀ i_, i_ < i → sb s i_ ≠ odd.getD k 0)⟩
  show Ev _ _ [(0, .string s), (3, .bool false), (5, .int .u8 (odd.getD k 0)), (7, .slice p odd.length c), (8, .int .i64 (odd.length : Int)), (9, .int .i64 (k : Int)), (14, .int .i64 (s.size : Int)), (15, .int .i64 (i : Int))] [base w (Low w)] _
  refine Ev.sr 1 ?_
  refine Rg.p 16 (.binOp .lss 3 (.tmp 15) (.tmp 14) 3) (pv_lss rfl rfl) ?_
  refine Rg.nx (fun _ _ h => h) [16,15,14,9,8,7,5,3,0] rfl ?_
  refine Ev.sq ?_
  refine Ev.cd 16 rfl (fun h3 => ?_) (fun h3 => ?_)
  ·
   have h4 := of_decide_eq_true h3
   refine Ev.sk ?_
   refine At.nx (fun _ _ h => h) [16,15,14,9,8,7,5,3,0] rfl ?_
   refine Ev.sq ?_
   refine Ev.bk 3 ?_
   refine Ev.sr 2 ?_
   refine Rg.mv 17 15 rfl ?_
   refine Rg.as 6 17 rfl ?_
   refine Rg.nx (fun _ _ h => h) [17,16,15,14,9,8,7,6,5,3,0] rfl ?_
   refine Ev.sr 5 ?_
   refine Rg.mv 18 0 rfl ?_
   refine Rg.mv 19 6 rfl ?_
   refine Rg.p 20 (.index 9 (.tmp 18) (.tmp 19)) (v := .int .u8 (sb s ((i : Int)).toNat)) (pv_index_string rfl rfl (by kernel_rfl) (by omega) (by omega)) ?_
   refine Rg.mv 21 5 rfl ?_
   refine Rg.p 22 (.binOp .eql 5 (.tmp 20) (.tmp 21) 5) (pv_eql rfl rfl) ?_
   refine Rg.nx (fun _ _ h => h) [22,21,20,19,18,17,16,15,14,9,8,7,6,5,3,0] rfl ?_
   refine Ev.cd 22 rfl (fun h5 => ?_) (fun h5 => ?_)
   ·
    have h6 := of_decide_eq_true h5
    refine Ev.sr 1 ?_
    refine Rg.ac 3 (.bool true) ?_
    refine Rg.nx (fun _ _ h => h) [22,21,20,19,18,17,16,15,14,9,8,7,6,5,3,0] rfl ?_
    refine Ev.rt ?_
    refine At.via (Q := Q) hQ ?_
    refine At.ret1 rfl rfl rfl ?_
    exact fun w hw => ⟨(by rw [oddB_t ⟨k, by omega, i, by omega, by simpa using h5⟩]), hw.base_below 0 rfl⟩
   ·
    have h7 := of_decide_eq_false h5
    refine Ev.sk ?_
    refine At.nx (fun _ _ h => h) [22,21,20,19,18,17,16,15,14,9,8,7,6,5,3,0] rfl ?_
    refine Ev.rg 2 ?_
    refine Rg.p 23 (.binOp .add 3 (.tmp 15) (.const (.int .i64 1)) 3) (pv_addb rfl rfl (in_i64 (by omega) (by omega))) ?_
    refine Rg.mv 15 23 rfl ?_
    refine Rg.fin rfl ?_
    refine At.round (fun _ _ h => h) (i + 1) [0] ⟨(by omega), (fun i_ h_ => by rcases Nat.lt_succ_iff_lt_or_eq.1 h_ with h1_ | h1_; exact hn2 i_ h1_; subst h1_; simpa using h5)⟩ (by show s.size - (i + 1) < s.size - i; omega) (.cons (rfl) (.cons (rfl) (.cons (rfl) (.cons (rfl) (.cons (rfl) (.cons (rfl) (.cons (rfl) (.cons (rfl) (.nil _))))))))) rfl (by decide)
  ·
   have h8 := of_decide_eq_false h3
   refine Ev.xt 2 ?_
   refine At.nx (fun _ _ h => h) [16,15,14,9,8,7,5,3,0] rfl ?_
   refine Ev.rg 2 ?_
   refine Rg.p 24 (.binOp .add 3 (.tmp 9) (.const (.int .i64 1)) 3) (pv_addb rfl rfl (in_i64 (by omega) (by omega))) ?_
   refine Rg.mv 9 24 rfl ?_
   refine Rg.fin rfl ?_
   refine At.round (fun _ _ h => h) (k + 1) [0] ⟨(by omega), (fun k_ h_ i_ hi_ => by rcases Nat.lt_succ_iff_lt_or_eq.1 h_ with h1_ | h1_; exact hno k_ h1_ i_ hi_; subst h1_; exact hn2 i_ (by omega))⟩ (by show odd.length - (k + 1) < odd.length - k; omega) (.cons (rfl) (.cons (rfl) (.cons (rfl) (.cons (rfl) (.cons (rfl) (.nil _)))))) rfl (by decide)
 ·
  have h9 := of_decide_eq_false h1
  refine Ev.xt 0 ?_
  refine At.nx (fun _ _ h => h) [3,0] rfl ?_
  refine Ev.sr 3 ?_
  refine Rg.mv 25 0 rfl ?_
  refine Rg.p 26 (.binOp .eql 9 (.tmp 25) (.const (.string ⟨#[]⟩)) 9) (pv_eql_str rfl rfl) ?_
  refine Rg.as 3 26 rfl ?_
  refine Rg.nx (fun _ _ h => h) [3] rfl ?_
  refine Ev.rt ?_
  refine At.via (Q := Q) hQ ?_
  refine At.ret1 rfl rfl rfl ?_
  exact fun w hw => ⟨(by rw [oddB_e (fun ⟨k_, hk_, i_, hi_, e_⟩ => hno k_ (by omega) i_ hi_ e_)]), hw.base_below 0 rfl⟩

set_option maxHeartbeats 8000000 in
theorem without2_calls {s : ByteArray} {bm : Nat} {mx : Int} {w : World} (hM : w.heap[bm]? = some (.cells #[.int .i64 mx] 3 (0, 0))) (hs : s.size ≤ 16777216) :
  Calls Try.prog 171 #[.string s, .pointer (some ⟨bm, 0, none⟩)] w (Ret w (.bool (decide (mx < (s.size : Int))))) := by
 refine calls_ofQ (args := [_, _]) [base w (Low w)] Try.func171 (by kernel_rfl) (by kernel_rfl) (Heap.start w) ?_
 intro Q hQ
 refine Ev.sr 1 ?_
 refine Rg.ac 3 (.bool false) ?_
 refine Rg.nx (fun _ _ h => h) [3,1,0] rfl ?_
 refine Ev.sr 5 ?_
 refine Rg.mv 4 0 rfl ?_
 refine Rg.p 5 (.call { callee := .builtin .len, args := #[.tmp 4], argTypes := #[9] }) (pv_len_string rfl (by kernel_rfl)) ?_
 refine Rg.p 6 (.load 3 (.tmp 1)) (v := .int .i64 mx) (pv_load_base 0 rfl rfl rfl hM (by kernel_rfl) rfl) ?_
 refine Rg.p 7 (.binOp .gtr 3 (.tmp 5) (.tmp 6) 3) (pv_gtr rfl rfl) ?_
 refine Rg.as 3 7 rfl ?_
 refine Rg.nx (fun _ _ h => h) [3] rfl ?_
 refine Ev.rt ?_
 refine At.via (Q := Q) hQ ?_
 refine At.ret1 rfl rfl rfl ?_
 exact fun w hw => ⟨rfl, hw.base_below 0 rfl⟩

set_option maxHeartbeats 8000000 in
theorem is_str_calls {s : ByteArray} {bo bm c : Nat} {p : Option Addr} {odd : List Int} {mx : Int} {w : World} (hO : w.heap[bo]? = some (.cells #[.slice p odd.length c] 29 (0, 0))) (hB : BytesAt (Low w) w p odd) (hol : odd.length ≤ 1024) (hM : w.heap[bm]? = some (.cells #[.int .i64 mx] 3 (0, 0))) (hs : s.size ≤ 16777216) :
  Calls Try.prog 149 #[.string s, .agg #[.func (.func 170) #[] #[.pointer (some ⟨bo, 0, none⟩)], .int .u32 22, .func (.func 171) #[] #[.pointer (some ⟨bm, 0, none⟩)], .int .u32 63]] w (Ret w (.int .u32 (statS s odd mx))) := by
 refine calls_ofQ (args := [_, _]) [base w (Low w)] Try.func149 (by kernel_rfl) (by kernel_rfl) (Heap.start w) ?_
 intro Q hQ
 refine Ev.sr 2 ?_
 refine Rg.bx 3 231 (.tmp 1) rfl fun b1 => ?_
 refine Rg.ac 4 (.int .u32 0) ?_
 refine Rg.nx (fun _ _ h => h) [4,3,0] rfl ?_
 refine Ev.sq ?_
 refine Ev.sr 2 ?_
 refine Rg.p 7 (.load 231 (.tmp 3)) (v := .agg #[.func (.func 170) #[] #[.pointer (some ⟨bo, 0, none⟩)], .int .u32 22, .func (.func 171) #[] #[.pointer (some ⟨bm, 0, none⟩)], .int .u32 63]) (pv_load_blk_whole 0 rfl rfl (by kernel_rfl) (by kernel_rfl)) ?_
 refine Rg.mc 8 (.int .i64 0) ?_
 refine Rg.nx (fun _ _ h => h) [8,7,4,0] rfl ?_
 refine Ev.bk 0 ?_
 refine ev_loop (T := Nat) (fun k => [(0, .string s), (4, .int .u32 0), (7, .agg #[.func (.func 170) #[] #[.pointer (some ⟨bo, 0, none⟩)], .int .u32 22, .func (.func 171) #[] #[.pointer (some ⟨bm, 0, none⟩)], .int .u32 63]), (8, .int .i64 ((k : Nat) : Int))]) (fun k => [base w (Low w)]) (fun k => k ≤ 2 ∧ (1 ≤ k → oddB s odd = false) ∧ (2 ≤ k → decide (mx < (s.size : Int)) = false)) (fun k => 2 - k) 0 [1] (by kernel_rfl) ⟨by omega, fun h => by omega, fun h => by omega⟩ (.cons (rfl) (.cons (rfl) (.cons (rfl) (.cons (rfl) (.nil _))))) rfl (by decide) ?_
 rintro k (hk : k ≤ 2 ∧ (1 ≤ k → oddB s odd = false) ∧ (2 ≤ k → decide (mx < (s.size : Int)) = false))
 show Ev _ _ [(0, .string s), (4, .int .u32 0), (7, .agg #[.func (.func 170) #[] #[.pointer (some ⟨bo, 0, none⟩)], .int .u32 22, .func (.func 171) #[] #[.pointer (some ⟨bm, 0, none⟩)], .int .u32 63]), (8, .int .i64 ((k : Nat) : Int))] [base w (Low w)] _
 have hk0 := hk.1
 obtain rfl | rfl | rfl : k = 0 ∨ k = 1 ∨ k = 2 := by omega
 ·
  refine Ev.sr 1 ?_
  refine Rg.p 9 (.binOp .lss 3 (.tmp 8) (.const (.int .i64 2)) 3) (pv_lss rfl rfl) ?_
  refine Rg.know 9 (b := decide (((0 : Nat) : Int) < 2)) (c := true) rfl (by decide) ?_
  refine Rg.nx (fun _ _ h => h) [9,8,7,4,0] rfl ?_
  refine Ev.sq ?_
  refine ev_cond_t (t := 9) (by kernel_rfl) rfl ?_
  refine Ev.sk ?_
  refine At.nx (fun _ _ h => h) [9,8,7,4,0] rfl ?_
  refine Ev.sq ?_
  refine Ev.bk 1 ?_
  refine Ev.sr 3 ?_
  refine Rg.p 10 (.index 231 (.tmp 7) (.tmp 8)) (v := .agg #[.func (.func 170) #[] #[.pointer (some ⟨bo, 0, none⟩)], .int .u32 22]) (pv_index_agg (e := 230) (sz := 2) (n := 2) (cs' := #[.func (.func 170) #[] #[.pointer (some ⟨bo, 0, none⟩)], .int .u32 22]) rfl rfl (by kernel_rfl) (by kernel_rfl) (by kernel_rfl) (by decide) (by decide) (by kernel_rfl)) ?_
  refine Rg.al 6 230 (.agg #[.nilFunc, .int .u32 0]) fun b2 => ?_
  refine Rg.st 230 6 (.tmp 10) 0 #[.func (.func 170) #[] #[.pointer (some ⟨bo, 0, none⟩)], .int .u32 22] rfl rfl rfl ?_
  refine Rg.nx (fun _ _ h => h) [10,9,8,7,6,4,0] rfl ?_
  refine Ev.sr 4 ?_
  refine Rg.fa 11 230 6 0 0 rfl ?_
  refine Rg.ld 12 228 11 0 rfl rfl rfl ?_
  refine Rg.mv 13 0 rfl ?_
  refine rg_callD (d := some 14) (f := 170) (fo := .tmp 12) (caps := #[.pointer (some ⟨bo, 0, none⟩)]) (xs := #[.tmp 13]) (ts := #[9]) (g := none) (v := .bool (oddB s odd)) (by kernel_rfl) (by kernel_rfl) rfl (by kernel_rfl) rfl (fun w hw => without1_calls (base_heap hw 1 rfl hO) (((hB).keep (hw.at_ 1 rfl) (fun k hk => hw.lt 1 rfl hk))) (hol) hs) ?_
  refine Rg.nx (fun _ _ h => h) [14,13,12,11,10,9,8,7,6,4,0] rfl ?_
  refine Ev.cd 14 rfl (fun h1 => ?_) (fun h1 => ?_)
  ·
   refine Ev.sr 3 ?_
   refine Rg.fa 15 230 6 1 1 rfl ?_
   refine Rg.ld 16 45 15 0 rfl rfl rfl ?_
   refine Rg.as 4 16 rfl ?_
   refine Rg.nx (fun _ _ h => h) [16,15,14,13,12,11,10,9,8,7,6,4,0] rfl ?_
   refine Ev.rt ?_
   refine At.via (Q := Q) hQ ?_
   refine At.ret1 rfl rfl rfl ?_
   exact fun w hw => ⟨(by rw [statS, if_pos h1]), hw.base_below 1 rfl⟩
  ·
   refine Ev.sk ?_
   refine At.nx (fun _ _ h => h) [14,13,12,11,10,9,8,7,6,4,0] rfl ?_
   refine Ev.rg 2 ?_
   refine Rg.p 17 (.binOp .add 3 (.tmp 8) (.const (.int .i64 1)) 3) (pv_addb rfl rfl (in_i64 (by omega) (by omega))) ?_
   refine Rg.mv 8 17 rfl ?_
   refine Rg.fin rfl ?_
   refine At.round (t := 0) (fun _ _ h => h) 1 [1] ⟨by omega, fun _ => h1, fun h => by omega⟩ (by decide) (.cons rfl (.cons rfl (.cons rfl (.cons rfl (.nil _))))) rfl (by decide)
 ·
  refine Ev.sr 1 ?_
  refine Rg.p 9 (.binOp .lss 3 (.tmp 8) (.const (.int .i64 2)) 3) (pv_lss rfl rfl) ?_
  refine Rg.know 9 (b := decide (((1 : Nat) : Int) < 2)) (c := true) rfl (by decide) ?_
  refine Rg.nx (fun _ _ h => h) [9,8,7,4,0] rfl ?_
  refine Ev.sq ?_
  refine ev_cond_t (t := 9) (by kernel_rfl) rfl ?_
  refine Ev.sk ?_
  refine At.nx (fun _ _ h => h) [9,8,7,4,0] rfl ?_
  refine Ev.sq ?_
  refine Ev.bk 1 ?_
  refine Ev.sr 3 ?_
  refine Rg.p 10 (.index 231 (.tmp 7) (.tmp 8)) (v := .agg #[.func (.func 171) #[] #[.pointer (some ⟨bm, 0, none⟩)], .int .u32 63]) (pv_index_agg (e := 230) (sz := 2) (n := 2) (cs' := #[.func (.func 171) #[] #[.pointer (some ⟨bm, 0, none⟩)], .int .u32 63]) rfl rfl (by kernel_rfl) (by kernel_rfl) (by kernel_rfl) (by decide) (by decide) (by kernel_rfl)) ?_
  refine Rg.al 6 230 (.agg #[.nilFunc, .int .u32 0]) fun b3 => ?_
  refine Rg.st 230 6 (.tmp 10) 0 #[.func (.func 171) #[] #[.pointer (some ⟨bm, 0, none⟩)], .int .u32 63] rfl rfl rfl ?_
  refine Rg.nx (fun _ _ h => h) [10,9,8,7,6,4,0] rfl ?_
  refine Ev.sr 4 ?_
  refine Rg.fa 11 230 6 0 0 rfl ?_
  refine Rg.ld 12 228 11 0 rfl rfl rfl ?_
  refine Rg.mv 13 0 rfl ?_
  refine rg_callD (d := some 14) (f := 171) (fo := .tmp 12) (caps := #[.pointer (some ⟨bm, 0, none⟩)]) (xs := #[.tmp 13]) (ts := #[9]) (g := none) (v := .bool (decide (mx < (s.size : Int)))) (by kernel_rfl) (by kernel_rfl) rfl (by kernel_rfl) rfl (fun w hw => without2_calls (base_heap hw 1 rfl hM) hs) ?_
  refine Rg.nx (fun _ _ h => h) [14,13,12,11,10,9,8,7,6,4,0] rfl ?_
  refine Ev.cd 14 rfl (fun h2 => ?_) (fun h2 => ?_)
  ·
   have h3 := of_decide_eq_true h2
   refine Ev.sr 3 ?_
   refine Rg.fa 15 230 6 1 1 rfl ?_
   refine Rg.ld 16 45 15 0 rfl rfl rfl ?_
   refine Rg.as 4 16 rfl ?_
   refine Rg.nx (fun _ _ h => h) [16,15,14,13,12,11,10,9,8,7,6,4,0] rfl ?_
   refine Ev.rt ?_
   refine At.via (Q := Q) hQ ?_
   refine At.ret1 rfl rfl rfl ?_
   exact fun w hw => ⟨(by rw [statS, if_neg (by rw [(hk.2.1 (by omega))]; decide), if_pos (of_decide_eq_true h2)]), hw.base_below 1 rfl⟩
  ·
   have h4 := of_decide_eq_false h2
   refine Ev.sk ?_
   refine At.nx (fun _ _ h => h) [14,13,12,11,10,9,8,7,6,4,0] rfl ?_
   refine Ev.rg 2 ?_
   refine Rg.p 17 (.binOp .add 3 (.tmp 8) (.const (.int .i64 1)) 3) (pv_addb rfl rfl (in_i64 (by omega) (by omega))) ?_
   refine Rg.mv 8 17 rfl ?_
   refine Rg.fin rfl ?_
   refine At.round (t := 1) (fun _ _ h => h) 2 [1] ⟨by omega, fun _ => hk.2.1 (by omega), fun _ => h2⟩ (by decide) (.cons rfl (.cons rfl (.cons rfl (.cons rfl (.nil _))))) rfl (by decide)
 ·
  refine Ev.sr 1 ?_
  refine Rg.p 9 (.binOp .lss 3 (.tmp 8) (.const (.int .i64 2)) 3) (pv_lss rfl rfl) ?_
  refine Rg.know 9 (b := decide (((2 : Nat) : Int) < 2)) (c := false) rfl (by decide) ?_
  refine Rg.nx (fun _ _ h => h) [9,8,7,4,0] rfl ?_
  refine Ev.sq ?_
  refine ev_cond_f (t := 9) (by kernel_rfl) rfl ?_
  refine Ev.xt 0 ?_
  refine At.nx (fun _ _ h => h) [4] rfl ?_
  refine Ev.sr 1 ?_
  refine Rg.ac 4 (.int .u32 0) ?_
  refine Rg.nx (fun _ _ h => h) [4] rfl ?_
  refine Ev.rt ?_
  refine At.via (Q := Q) hQ ?_
  refine At.ret1 rfl rfl rfl ?_
  exact fun w hw => ⟨(by rw [statS, if_neg (by rw [(hk.2.1 (by omega))]; decide), if_neg (of_decide_eq_false (hk.2.2 (by omega)))]), hw.base_below 0 rfl⟩

set_option maxHeartbeats 8000000 in
theorem without_calls {mx : Int} {n c : Nat} {p : Option Addr} {w : World} :
  Calls Try.prog 150 #[.int .i64 mx, .slice p n c] w (RetN w (fun _ : Nat × Nat => True) (fun x => .agg #[.func (.func 170) #[] #[.pointer (some ⟨x.1, 0, none⟩)], .int .u32 22, .func (.func 171) #[] #[.pointer (some ⟨x.2, 0, none⟩)], .int .u32 63]) (fun x => [blk x.1 (.cells #[.slice p n c] 29 (0, 0)), blk x.2 (.cells #[.int .i64 mx] 3 (0, 0))])) := by
 refine calls_ofQ (args := [_, _]) [base w (Low w)] Try.func150 (by kernel_rfl) (by kernel_rfl) (Heap.start w) ?_
 intro Q hQ
 refine Ev.sr 3 ?_
 refine Rg.bx 2 3 (.tmp 0) rfl fun b1 => ?_
 refine Rg.bx 3 29 (.tmp 1) rfl fun b2 => ?_
 refine Rg.al 4 231 (.agg #[.nilFunc, .int .u32 0, .nilFunc, .int .u32 0]) fun b3 => ?_
 refine Rg.nx (fun _ _ h => h) [4,3,2] rfl ?_
 refine Ev.sr 6 ?_
 refine Rg.p 5 (.makeFunc (.func 170) #[] #[.tmp 3]) (v := .func (.func 170) #[] #[.pointer (some ⟨b2, 0, none⟩)]) (pv_makeFunc (xs := [.tmp 3]) rfl) ?_
 refine Rg.p 6 (.build 230 #[(0, .tmp 5), (1, .const (.int .u32 22))]) (v := .agg #[.func (.func 170) #[] #[.pointer (some ⟨b2, 0, none⟩)], .int .u32 22]) (pv_build (parts := [(0, .tmp 5), (1, .const (.int .u32 22))]) (vs := [.func (.func 170) #[] #[.pointer (some ⟨b2, 0, none⟩)], .int .u32 22]) (fs := [(0, 1), (1, 1)]) (zv := .agg #[.nilFunc, .int .u32 0]) (cs := #[.func (.func 170) #[] #[.pointer (some ⟨b2, 0, none⟩)], .int .u32 22]) rfl (by kernel_rfl) (by kernel_rfl) (by kernel_rfl)) ?_
 refine Rg.p 7 (.makeFunc (.func 171) #[] #[.tmp 2]) (v := .func (.func 171) #[] #[.pointer (some ⟨b1, 0, none⟩)]) (pv_makeFunc (xs := [.tmp 2]) rfl) ?_
 refine Rg.p 8 (.build 230 #[(0, .tmp 7), (1, .const (.int .u32 63))]) (v := .agg #[.func (.func 171) #[] #[.pointer (some ⟨b1, 0, none⟩)], .int .u32 63]) (pv_build (parts := [(0, .tmp 7), (1, .const (.int .u32 63))]) (vs := [.func (.func 171) #[] #[.pointer (some ⟨b1, 0, none⟩)], .int .u32 63]) (fs := [(0, 1), (1, 1)]) (zv := .agg #[.nilFunc, .int .u32 0]) (cs := #[.func (.func 171) #[] #[.pointer (some ⟨b1, 0, none⟩)], .int .u32 63]) rfl (by kernel_rfl) (by kernel_rfl) (by kernel_rfl)) ?_
 refine Rg.p 9 (.build 231 #[(0, .tmp 6), (1, .tmp 8)]) (v := .agg #[.func (.func 170) #[] #[.pointer (some ⟨b2, 0, none⟩)], .int .u32 22, .func (.func 171) #[] #[.pointer (some ⟨b1, 0, none⟩)], .int .u32 63]) (pv_buildArr (e := 230) (sz := 2) (n := 2) (parts := [(0, .tmp 6), (1, .tmp 8)]) (vs := [.agg #[.func (.func 170) #[] #[.pointer (some ⟨b2, 0, none⟩)], .int .u32 22], .agg #[.func (.func 171) #[] #[.pointer (some ⟨b1, 0, none⟩)], .int .u32 63]]) (zv := .agg #[.nilFunc, .int .u32 0, .nilFunc, .int .u32 0]) (cs := #[.func (.func 170) #[] #[.pointer (some ⟨b2, 0, none⟩)], .int .u32 22, .func (.func 171) #[] #[.pointer (some ⟨b1, 0, none⟩)], .int .u32 63]) rfl (by kernel_rfl) (by kernel_rfl) (by kernel_rfl) (by kernel_rfl)) ?_
 refine Rg.st 231 4 (.tmp 9) 0 #[.func (.func 170) #[] #[.pointer (some ⟨b2, 0, none⟩)], .int .u32 22, .func (.func 171) #[] #[.pointer (some ⟨b1, 0, none⟩)], .int .u32 63] rfl rfl rfl ?_
 refine Rg.nx (fun _ _ h => h) [4] rfl ?_
 refine Ev.rt ?_
 refine At.via (Q := Q) hQ ?_
 refine At.retCell rfl rfl (reads_cellA 0 rfl rfl (by kernel_rfl) (by kernel_rfl)) ?_
 exact fun w hw => ⟨(b2, b1), trivial, rfl, hw.pick [1, 2, 3] (by decide)⟩

noncomputable def nameS (s : ByteArray) : Int := statS s [0, 47] 255
noncomputable def pathS (s : ByteArray) : Int := statS s [0] 1024

set_option maxHeartbeats 8000000 in
theorem Name_calls {s : ByteArray} {w : World} (hs : s.size ≤ 16777216) :
  Calls Try.prog 113 #[.string s] w (Ret w (.int .u32 (nameS s))) := by
 refine calls_ofQ (args := [_]) [base w (Low w)] Try.func113 (by kernel_rfl) (by kernel_rfl) (Heap.start w) ?_
 intro Q hQ
 refine Ev.sr 1 ?_
 refine Rg.ac 2 (.int .u32 0) ?_
 refine Rg.nx (fun _ _ h => h) [2,0] rfl ?_
 refine Ev.sr 5 ?_
 refine Rg.mv 3 0 rfl ?_
 refine rg_buildSlice (d := 4) (t := 29) (e := 5) (sz := 1) (len := 2) (parts := [(0, .const (.int .u8 0)), (1, .const (.int .u8 47))]) (g := none) (vs := [.int .u8 0, .int .u8 47]) (cs := #[.int .u8 0, .int .u8 47]) (by kernel_rfl) (by kernel_rfl) rfl (by kernel_rfl) (.int .u8 0) (by kernel_rfl) (by kernel_rfl) (by kernel_rfl) ?_
 intro b1
 refine Rg.cn (T := Nat × Nat) (some 5) 150 #[.const (.int .i64 255), .tmp 4] #[3, 29] (v := fun ⟨b2, b3⟩ => .agg #[.func (.func 170) #[] #[.pointer (some ⟨b2, 0, none⟩)], .int .u32 22, .func (.func 171) #[] #[.pointer (some ⟨b3, 0, none⟩)], .int .u32 63]) (L := fun ⟨b2, b3⟩ => [blk b2 (.cells #[.slice (some ⟨b1, 0, none⟩) 2 2] 29 (0, 0)), blk b3 (.cells #[.int .i64 255] 3 (0, 0))]) rfl (fun w hw => without_calls) ?_
 rintro ⟨b2, b3⟩ _
 dsimp only [putE, List.append, HAppend.hAppend, Append.append]
 refine Rg.cl (some 6) 149 #[.tmp 3, .tmp 5] #[9, 231] (v := .int .u32 (statS s [0, 47] 255)) rfl (fun w hw => is_str_calls (hw.blk_at 0 rfl) (blk_bytes hw 2 [0, 47] rfl rfl) (by decide) (hw.blk_at 1 rfl) hs) ?_
 refine Rg.as 2 6 rfl ?_
 refine Rg.nx (fun _ _ h => h) [2] rfl ?_
 refine Ev.rt ?_
 refine At.via (Q := Q) hQ ?_
 refine At.ret1 rfl rfl rfl ?_
 exact fun w hw => ⟨rfl, hw.base_below 3 rfl⟩

set_option maxHeartbeats 8000000 in
theorem Path_calls {s : ByteArray} {w : World} (hs : s.size ≤ 16777216) :
  Calls Try.prog 111 #[.string s] w (Ret w (.int .u32 (pathS s))) := by
 refine calls_ofQ (args := [_]) [base w (Low w)] Try.func111 (by kernel_rfl) (by kernel_rfl) (Heap.start w) ?_
 intro Q hQ
 refine Ev.sr 1 ?_
 refine Rg.ac 2 (.int .u32 0) ?_
 refine Rg.nx (fun _ _ h => h) [2,0] rfl ?_
 refine Ev.sr 5 ?_
 refine Rg.mv 3 0 rfl ?_
 refine rg_buildSlice (d := 4) (t := 29) (e := 5) (sz := 1) (len := 1) (parts := [(0, .const (.int .u8 0))]) (g := none) (vs := [.int .u8 0]) (cs := #[.int .u8 0]) (by kernel_rfl) (by kernel_rfl) rfl (by kernel_rfl) (.int .u8 0) (by kernel_rfl) (by kernel_rfl) (by kernel_rfl) ?_
 intro b1
 refine Rg.cn (T := Nat × Nat) (some 5) 150 #[.const (.int .i64 1024), .tmp 4] #[3, 29] (v := fun ⟨b2, b3⟩ => .agg #[.func (.func 170) #[] #[.pointer (some ⟨b2, 0, none⟩)], .int .u32 22, .func (.func 171) #[] #[.pointer (some ⟨b3, 0, none⟩)], .int .u32 63]) (L := fun ⟨b2, b3⟩ => [blk b2 (.cells #[.slice (some ⟨b1, 0, none⟩) 1 1] 29 (0, 0)), blk b3 (.cells #[.int .i64 1024] 3 (0, 0))]) rfl (fun w hw => without_calls) ?_
 rintro ⟨b2, b3⟩ _
 dsimp only [putE, List.append, HAppend.hAppend, Append.append]
 refine Rg.cl (some 6) 149 #[.tmp 3, .tmp 5] #[9, 231] (v := .int .u32 (statS s [0] 1024)) rfl (fun w hw => is_str_calls (hw.blk_at 0 rfl) (blk_bytes hw 2 [0] rfl rfl) (by decide) (hw.blk_at 1 rfl) hs) ?_
 refine Rg.as 2 6 rfl ?_
 refine Rg.nx (fun _ _ h => h) [2] rfl ?_
 refine Ev.rt ?_
 refine At.via (Q := Q) hQ ?_
 refine At.ret1 rfl rfl rfl ?_
 exact fun w hw => ⟨rfl, hw.base_below 3 rfl⟩

end Go.Proofs.Ytfhhggcdmgjbcaa.Sx

namespace Go.Proofs.Ytfhhggcdmgjbcaa.Sx
open Go Go.RowKit Go.Proofs

def verfL (v : V8) : List Int := [v.a0, v.a1, v.a2, v.a3, v.a4, v.a5, v.a6, v.a7]
def fileS (n : Node) : Bool := decide ((n.data.length : Int) = 0) && decide (verfL n.verf = [0, 0, 0, 0, 0, 0, 0, 0])
def listS (n : Node) : Bool := (decide ((n.list.length : Int) = 0) && decide (n.parent = 0)) && decide (n.next = 0)
def timeZ (a b : Int) : Bool := decide (a = 0) && (decide (b = 0) && true)
noncomputable def onlyS (n : Node) : Bool :=
  cond (decide (n.kind = 0)) ((((((((fileS n && decide (n.target = ⟨#[]⟩)) && listS n) && decide (bitsI .or .u32 (bitsI .or .u32 (bitsI .or .u32 n.gen n.mode) n.user) n.group = 0)) && decide (n.links = 0)) && timeZ n.rs n.rn) && timeZ n.ws n.wn) && timeZ n.ts n.tn)) <|
  cond (decide (n.kind = 1)) ((decide (n.target = ⟨#[]⟩) && listS n) && decide ((n.data.length : Int) ≤ 65536)) <|
  cond (decide (n.kind = 5)) ((fileS n && listS n) && decide (pathS n.target = 0))
    ((decide (n.kind = 2) && fileS n) && decide (n.target = ⟨#[]⟩))

set_option maxHeartbeats 8000000 in
theorem only_calls {n : Node} {a : Loc} {w : World} (hW : NodeWf n) :
  Calls Try.prog 57 #[.agg (n.cells a)] w (Ret w (.bool (onlyS n))) := by
 refine calls_ofQ (args := [_]) [base w (Low w)] Try.func57 (by kernel_rfl) (by kernel_rfl) (Heap.start w) ?_
 intro Q hQ
 refine Ev.sr 2 ?_
 refine Rg.bx 1 44 (.tmp 0) rfl fun b1 => ?_
 refine Rg.ac 2 (.bool false) ?_
 refine Rg.nx (fun _ _ h => h) [2,1] rfl ?_
 refine Ev.sr 11 ?_
 refine Rg.fa 5 44 1 9 12 rfl ?_
 refine Rg.ld 6 29 5 0 rfl rfl rfl ?_
 refine Rg.p 7 (.call { callee := .builtin .len, args := #[.tmp 6], argTypes := #[29] }) (pv_len_slice rfl (by kernel_rfl)) ?_
 refine Rg.p 8 (.binOp .eql 3 (.tmp 7) (.const (.int .i64 0)) 3) (pv_eql rfl rfl) ?_
 refine Rg.mv 9 8 rfl ?_
 refine Rg.ga 10 14 9 (decide ([n.verf.a0, n.verf.a1, n.verf.a2, n.verf.a3, n.verf.a4, n.verf.a5, n.verf.a6, n.verf.a7] = [0, 0, 0, 0, 0, 0, 0, 0])) rfl (fun h1 => ?_) (fun h1 => ?_) ?_
 ·
  have h2 := of_decide_eq_true h1
  refine Rg.pg 4 true 10 (.fieldAddr 44 (.tmp 1) 10) (pv_fieldAddr rfl (n := 13) (by kernel_rfl)) ?_
  refine Rg.pg 4 true 11 (.load 41 (.tmp 10)) (v := .agg #[.int .u8 n.verf.a0, .int .u8 n.verf.a1, .int .u8 n.verf.a2, .int .u8 n.verf.a3, .int .u8 n.verf.a4, .int .u8 n.verf.a5, .int .u8 n.verf.a6, .int .u8 n.verf.a7]) (pv_load_blk_agg 0 rfl rfl (vs := #[.int .u8 n.verf.a0, .int .u8 n.verf.a1, .int .u8 n.verf.a2, .int .u8 n.verf.a3, .int .u8 n.verf.a4, .int .u8 n.verf.a5, .int .u8 n.verf.a6, .int .u8 n.verf.a7]) (by kernel_rfl) (by kernel_rfl) (agg_rfl (by kernel_rfl))) ?_
  refine Rg.pg 4 true 12 (.build 41 #[]) (v := .agg #[.int .u8 0, .int .u8 0, .int .u8 0, .int .u8 0, .int .u8 0, .int .u8 0, .int .u8 0, .int .u8 0]) (pv_buildArr (e := 5) (sz := 1) (n := 8) (parts := []) (vs := []) (zv := .agg #[.int .u8 0, .int .u8 0, .int .u8 0, .int .u8 0, .int .u8 0, .int .u8 0, .int .u8 0, .int .u8 0]) (cs := #[.int .u8 0, .int .u8 0, .int .u8 0, .int .u8 0, .int .u8 0, .int .u8 0, .int .u8 0, .int .u8 0]) rfl (by kernel_rfl) (by kernel_rfl) (by kernel_rfl) (by kernel_rfl)) ?_
  refine Rg.pg 4 true 13 (.binOp .eql 41 (.tmp 11) (.tmp 12) 41) (v := .bool (decide ([n.verf.a0, n.verf.a1, n.verf.a2, n.verf.a3, n.verf.a4, n.verf.a5, n.verf.a6, n.verf.a7] = [0, 0, 0, 0, 0, 0, 0, 0]))) (pv_eql_arr (n := 8) (e := 5) (q := .u8) (us := [n.verf.a0, n.verf.a1, n.verf.a2, n.verf.a3, n.verf.a4, n.verf.a5, n.verf.a6, n.verf.a7]) (vs := [0, 0, 0, 0, 0, 0, 0, 0]) rfl rfl (by kernel_rfl) (by kernel_rfl) (by kernel_rfl) (by kernel_rfl) rfl rfl) ?_
  refine Rg.p 14 (.pick (.tmp 9) (.tmp 13) (.const (.bool false))) (pv_pick_t rfl rfl) ?_
  exact Rg.em 9 h1 (at_t h1) rfl rfl
 ·
  refine Rg.skips 9 (by kernel_rfl) ?_
  refine Rg.p 14 (.pick (.tmp 9) (.tmp 13) (.const (.bool false))) (pv_pick_f rfl rfl) ?_
  exact Rg.em 9 h1 (at_f h1) rfl rfl
 refine Rg.as 3 14 rfl ?_
 refine Rg.nx (fun _ _ h => h) [3,2,1] rfl ?_
 refine Ev.sr 15 ?_
 refine Rg.fa 15 44 1 12 22 rfl ?_
 refine Rg.ld 16 42 15 0 rfl rfl rfl ?_
 refine Rg.p 17 (.call { callee := .builtin .len, args := #[.tmp 16], argTypes := #[42] }) (pv_len_slice rfl (by kernel_rfl)) ?_
 refine Rg.p 18 (.binOp .eql 3 (.tmp 17) (.const (.int .i64 0)) 3) (pv_eql rfl rfl) ?_
 refine Rg.mv 19 18 rfl ?_
 refine Rg.ga 9 23 19 (decide (n.parent = 0)) rfl (fun h3 => ?_) (fun h3 => ?_) ?_
 ·
  have h4 := of_decide_eq_true h3
  refine Rg.pg 4 true 20 (.fieldAddr 44 (.tmp 1) 13) (pv_fieldAddr rfl (n := 23) (by kernel_rfl)) ?_
  refine Rg.pg 4 true 21 (.load 3 (.tmp 20)) (v := .int .i64 n.parent) (pv_load_blk 0 rfl rfl (by kernel_rfl) rfl) ?_
  refine Rg.pg 4 true 22 (.binOp .eql 3 (.tmp 21) (.const (.int .i64 0)) 3) (pv_eql rfl rfl) ?_
  refine Rg.p 23 (.pick (.tmp 19) (.tmp 22) (.const (.bool false))) (pv_pick_t rfl rfl) ?_
  exact Rg.em 19 h3 (at_t h3) rfl rfl
 ·
  refine Rg.skips 8 (by kernel_rfl) ?_
  refine Rg.p 23 (.pick (.tmp 19) (.tmp 22) (.const (.bool false))) (pv_pick_f rfl rfl) ?_
  exact Rg.em 19 h3 (at_f h3) rfl rfl
 refine Rg.mv 24 23 rfl ?_
 refine Rg.ga 14 28 24 (decide (n.next = 0)) rfl (fun h5 => ?_) (fun h5 => ?_) ?_
 ·
  have ⟨h6, h7⟩ := and_t h5
  have h8 := of_decide_eq_true h6
  have h9 := of_decide_eq_true h7
  refine Rg.pg 9 true 25 (.fieldAddr 44 (.tmp 1) 14) (pv_fieldAddr rfl (n := 24) (by kernel_rfl)) ?_
  refine Rg.pg 9 true 26 (.load 34 (.tmp 25)) (v := .int .u64 n.next) (pv_load_blk 0 rfl rfl (by kernel_rfl) rfl) ?_
  refine Rg.pg 9 true 27 (.binOp .eql 34 (.tmp 26) (.const (.int .u64 0)) 34) (pv_eql rfl rfl) ?_
  refine Rg.p 28 (.pick (.tmp 24) (.tmp 27) (.const (.bool false))) (pv_pick_t rfl rfl) ?_
  exact Rg.em 24 h5 (at_t h5) rfl rfl
 ·
  refine Rg.skips 13 (by kernel_rfl) ?_
  refine Rg.p 28 (.pick (.tmp 24) (.tmp 27) (.const (.bool false))) (pv_pick_f rfl rfl) ?_
  exact Rg.em 24 h5 (at_f h5) rfl rfl
 refine Rg.as 4 28 rfl ?_
 refine Rg.nx (fun _ _ h => h) [4,3,2,1] rfl ?_
 refine Ev.sq ?_
 refine Ev.sr 2 ?_
 refine Rg.fa 29 44 1 0 0 rfl ?_
 refine Rg.ld 30 33 29 0 rfl rfl rfl ?_
 refine Rg.nx (fun _ _ h => h) [30,4,3,2,1] rfl ?_
 refine Ev.bk 0 ?_
 refine Ev.sr 2 ?_
 refine Rg.p 32 (.binOp .eql 33 (.tmp 30) (.const (.int .u32 0)) 33) (pv_eql rfl rfl) ?_
 refine Rg.as 31 32 rfl ?_
 refine Rg.nx (fun _ _ h => h) [31,30,4,3,2,1] rfl ?_
 refine Ev.cd 31 rfl (fun h10 => ?_) (fun h10 => ?_)
 ·
  have h11 := of_decide_eq_true h10
  refine Ev.sr 47 ?_
  refine Rg.mv 33 3 rfl ?_
  refine Rg.mv 34 33 rfl ?_
  refine Rg.ga 6 38 34 (decide (n.target = ⟨#[]⟩)) rfl (fun h12 => ?_) (fun h12 => ?_) ?_
  ·
   have ⟨h13, h14⟩ := and_t h12
   have h15 := of_decide_eq_true h13
   have h16 := of_decide_eq_true h14
   refine Rg.pg 1 true 35 (.fieldAddr 44 (.tmp 1) 11) (pv_fieldAddr rfl (n := 21) (by kernel_rfl)) ?_
   refine Rg.pg 1 true 36 (.load 9 (.tmp 35)) (v := .string n.target) (pv_load_blk 0 rfl rfl (by kernel_rfl) rfl) ?_
   refine Rg.pg 1 true 37 (.binOp .eql 9 (.tmp 36) (.const (.string ⟨#[]⟩)) 9) (pv_eql_str rfl rfl) ?_
   refine Rg.p 38 (.pick (.tmp 34) (.tmp 37) (.const (.bool false))) (pv_pick_t rfl rfl) ?_
   exact Rg.em 34 h12 (at_t h12) rfl rfl
  ·
   refine Rg.skips 5 (by kernel_rfl) ?_
   refine Rg.p 38 (.pick (.tmp 34) (.tmp 37) (.const (.bool false))) (pv_pick_f rfl rfl) ?_
   exact Rg.em 34 h12 (at_f h12) rfl rfl
  refine Rg.mv 39 38 rfl ?_
  refine Rg.ga 9 41 39 (((decide ((n.list.length : Int) = 0)) && (decide (n.parent = 0))) && (decide (n.next = 0))) rfl (fun h17 => ?_) (fun h17 => ?_) ?_
  ·
   have ⟨h18, h19⟩ := and_t h17
   have ⟨h20, h21⟩ := and_t h18
   have h22 := of_decide_eq_true h20
   have h23 := of_decide_eq_true h21
   have h24 := of_decide_eq_true h19
   refine Rg.pg 6 true 40 (.move (.tmp 4)) (pv_move rfl) ?_
   refine Rg.p 41 (.pick (.tmp 39) (.tmp 40) (.const (.bool false))) (pv_pick_t rfl rfl) ?_
   exact Rg.em 39 h17 (at_t h17) rfl rfl
  ·
   refine Rg.skips 8 (by kernel_rfl) ?_
   refine Rg.p 41 (.pick (.tmp 39) (.tmp 40) (.const (.bool false))) (pv_pick_f rfl rfl) ?_
   exact Rg.em 39 h17 (at_f h17) rfl rfl
  refine Rg.mv 42 41 rfl ?_
  refine Rg.ga 23 55 42 (decide ((bitsI .or .u32 (bitsI .or .u32 (bitsI .or .u32 n.gen n.mode) n.user) n.group) = 0)) rfl (fun h25 => ?_) (fun h25 => ?_) ?_
  ·
   have ⟨h26, h27⟩ := and_t h25
   have ⟨h28, h29⟩ := and_t h26
   have ⟨h30, h31⟩ := and_t h28
   have h32 := of_decide_eq_true h30
   have h33 := of_decide_eq_true h31
   have h34 := of_decide_eq_true h29
   have ⟨h35, h36⟩ := and_t h27
   have ⟨h37, h38⟩ := and_t h35
   have h39 := of_decide_eq_true h37
   have h40 := of_decide_eq_true h38
   have h41 := of_decide_eq_true h36
   refine Rg.pg 9 true 43 (.fieldAddr 44 (.tmp 1) 1) (pv_fieldAddr rfl (n := 1) (by kernel_rfl)) ?_
   refine Rg.pg 9 true 44 (.load 23 (.tmp 43)) (v := .int .u32 n.gen) (pv_load_blk 0 rfl rfl (by kernel_rfl) rfl) ?_
   refine Rg.pg 9 true 45 (.fieldAddr 44 (.tmp 1) 2) (pv_fieldAddr rfl (n := 2) (by kernel_rfl)) ?_
   refine Rg.pg 9 true 46 (.load 23 (.tmp 45)) (v := .int .u32 n.mode) (pv_load_blk 0 rfl rfl (by kernel_rfl) rfl) ?_
   refine Rg.pg 9 true 47 (.binOp .or 23 (.tmp 44) (.tmp 46) 23) (pv_bits rfl rfl rfl) ?_
   refine Rg.pg 9 true 48 (.fieldAddr 44 (.tmp 1) 3) (pv_fieldAddr rfl (n := 3) (by kernel_rfl)) ?_
   refine Rg.pg 9 true 49 (.load 23 (.tmp 48)) (v := .int .u32 n.user) (pv_load_blk 0 rfl rfl (by kernel_rfl) rfl) ?_
   refine Rg.pg 9 true 50 (.binOp .or 23 (.tmp 47) (.tmp 49) 23) (pv_bits rfl rfl rfl) ?_
   refine Rg.pg 9 true 51 (.fieldAddr 44 (.tmp 1) 4) (pv_fieldAddr rfl (n := 4) (by kernel_rfl)) ?_
   refine Rg.pg 9 true 52 (.load 23 (.tmp 51)) (v := .int .u32 n.group) (pv_load_blk 0 rfl rfl (by kernel_rfl) rfl) ?_
   refine Rg.pg 9 true 53 (.binOp .or 23 (.tmp 50) (.tmp 52) 23) (pv_bits rfl rfl rfl) ?_
   refine Rg.pg 9 true 54 (.binOp .eql 23 (.tmp 53) (.const (.int .u32 0)) 23) (pv_eql rfl rfl) ?_
   refine Rg.p 55 (.pick (.tmp 42) (.tmp 54) (.const (.bool false))) (pv_pick_t rfl rfl) ?_
   exact Rg.em 42 h25 (at_t h25) rfl rfl
  ·
   refine Rg.skips 22 (by kernel_rfl) ?_
   refine Rg.p 55 (.pick (.tmp 42) (.tmp 54) (.const (.bool false))) (pv_pick_f rfl rfl) ?_
   exact Rg.em 42 h25 (at_f h25) rfl rfl
  refine Rg.mv 56 55 rfl ?_
  refine Rg.ga 28 60 56 (decide (n.links = 0)) rfl (fun h42 => ?_) (fun h42 => ?_) ?_
  ·
   have ⟨h43, h44⟩ := and_t h42
   have ⟨h45, h46⟩ := and_t h43
   have ⟨h47, h48⟩ := and_t h45
   have ⟨h49, h50⟩ := and_t h47
   have h51 := of_decide_eq_true h49
   have h52 := of_decide_eq_true h50
   have h53 := of_decide_eq_true h48
   have ⟨h54, h55⟩ := and_t h46
   have ⟨h56, h57⟩ := and_t h54
   have h58 := of_decide_eq_true h56
   have h59 := of_decide_eq_true h57
   have h60 := of_decide_eq_true h55
   have h61 := of_decide_eq_true h44
   refine Rg.pg 23 true 57 (.fieldAddr 44 (.tmp 1) 5) (pv_fieldAddr rfl (n := 5) (by kernel_rfl)) ?_
   refine Rg.pg 23 true 58 (.load 3 (.tmp 57)) (v := .int .i64 n.links) (pv_load_blk 0 rfl rfl (by kernel_rfl) rfl) ?_
   refine Rg.pg 23 true 59 (.binOp .eql 3 (.tmp 58) (.const (.int .i64 0)) 3) (pv_eql rfl rfl) ?_
   refine Rg.p 60 (.pick (.tmp 56) (.tmp 59) (.const (.bool false))) (pv_pick_t rfl rfl) ?_
   exact Rg.em 56 h42 (at_t h42) rfl rfl
  ·
   refine Rg.skips 27 (by kernel_rfl) ?_
   refine Rg.p 60 (.pick (.tmp 56) (.tmp 59) (.const (.bool false))) (pv_pick_f rfl rfl) ?_
   exact Rg.em 56 h42 (at_f h42) rfl rfl
  refine Rg.mv 61 60 rfl ?_
  refine Rg.ga 34 66 61 (decide (n.rs = 0) && (decide (n.rn = 0) && true)) rfl (fun h62 => ?_) (fun h62 => ?_) ?_
  ·
   have ⟨h63, h64⟩ := and_t h62
   have ⟨h65, h66⟩ := and_t h63
   have ⟨h67, h68⟩ := and_t h65
   have ⟨h69, h70⟩ := and_t h67
   have ⟨h71, h72⟩ := and_t h69
   have h73 := of_decide_eq_true h71
   have h74 := of_decide_eq_true h72
   have h75 := of_decide_eq_true h70
   have ⟨h76, h77⟩ := and_t h68
   have ⟨h78, h79⟩ := and_t h76
   have h80 := of_decide_eq_true h78
   have h81 := of_decide_eq_true h79
   have h82 := of_decide_eq_true h77
   have h83 := of_decide_eq_true h66
   have h84 := of_decide_eq_true h64
   refine Rg.pg 28 true 62 (.fieldAddr 44 (.tmp 1) 6) (pv_fieldAddr rfl (n := 6) (by kernel_rfl)) ?_
   refine Rg.pg 28 true 63 (.load 36 (.tmp 62)) (v := .agg #[.int .u32 n.rs, .int .u32 n.rn]) (pv_load_blk_agg 0 rfl rfl (vs := #[.int .u32 n.rs, .int .u32 n.rn]) (by kernel_rfl) (by kernel_rfl) (agg_rfl (by kernel_rfl))) ?_
   refine Rg.pg 28 true 64 (.build 36 #[]) (v := .agg #[.int .u32 0, .int .u32 0]) (pv_build (parts := []) (vs := []) (fs := [(0, 1), (1, 1)]) (zv := .agg #[.int .u32 0, .int .u32 0]) (cs := #[.int .u32 0, .int .u32 0]) rfl (by kernel_rfl) (by kernel_rfl) (by kernel_rfl)) ?_
   refine Rg.pg 28 true 65 (.binOp .eql 36 (.tmp 63) (.tmp 64) 36) (pv_eql_struct (b := (decide (n.rs = 0) && (decide (n.rn = 0) && true))) rfl rfl (by kernel_rfl) (by kernel_rfl) (by kernel_rfl) (by kernel_rfl)) ?_
   refine Rg.p 66 (.pick (.tmp 61) (.tmp 65) (.const (.bool false))) (pv_pick_t rfl rfl) ?_
   exact Rg.em 61 h62 (at_t h62) rfl rfl
  ·
   refine Rg.skips 33 (by kernel_rfl) ?_
   refine Rg.p 66 (.pick (.tmp 61) (.tmp 65) (.const (.bool false))) (pv_pick_f rfl rfl) ?_
   exact Rg.em 61 h62 (at_f h62) rfl rfl
  refine Rg.mv 67 66 rfl ?_
  refine Rg.ga 40 72 67 (decide (n.ws = 0) && (decide (n.wn = 0) && true)) rfl (fun h85 => ?_) (fun h85 => ?_) ?_
  ·
   have ⟨h86, h87⟩ := and_t h85
   have ⟨h88, h89⟩ := and_t h86
   have ⟨h90, h91⟩ := and_t h88
   have ⟨h92, h93⟩ := and_t h90
   have ⟨h94, h95⟩ := and_t h92
   have ⟨h96, h97⟩ := and_t h94
   have h98 := of_decide_eq_true h96
   have h99 := of_decide_eq_true h97
   have h100 := of_decide_eq_true h95
   have ⟨h101, h102⟩ := and_t h93
   have ⟨h103, h104⟩ := and_t h101
   have h105 := of_decide_eq_true h103
   have h106 := of_decide_eq_true h104
   have h107 := of_decide_eq_true h102
   have h108 := of_decide_eq_true h91
   have h109 := of_decide_eq_true h89
   refine Rg.pg 34 true 68 (.fieldAddr 44 (.tmp 1) 7) (pv_fieldAddr rfl (n := 8) (by kernel_rfl)) ?_
   refine Rg.pg 34 true 69 (.load 36 (.tmp 68)) (v := .agg #[.int .u32 n.ws, .int .u32 n.wn]) (pv_load_blk_agg 0 rfl rfl (vs := #[.int .u32 n.ws, .int .u32 n.wn]) (by kernel_rfl) (by kernel_rfl) (agg_rfl (by kernel_rfl))) ?_
   refine Rg.pg 34 true 70 (.build 36 #[]) (v := .agg #[.int .u32 0, .int .u32 0]) (pv_build (parts := []) (vs := []) (fs := [(0, 1), (1, 1)]) (zv := .agg #[.int .u32 0, .int .u32 0]) (cs := #[.int .u32 0, .int .u32 0]) rfl (by kernel_rfl) (by kernel_rfl) (by kernel_rfl)) ?_
   refine Rg.pg 34 true 71 (.binOp .eql 36 (.tmp 69) (.tmp 70) 36) (pv_eql_struct (b := (decide (n.ws = 0) && (decide (n.wn = 0) && true))) rfl rfl (by kernel_rfl) (by kernel_rfl) (by kernel_rfl) (by kernel_rfl)) ?_
   refine Rg.p 72 (.pick (.tmp 67) (.tmp 71) (.const (.bool false))) (pv_pick_t rfl rfl) ?_
   exact Rg.em 67 h85 (at_t h85) rfl rfl
  ·
   refine Rg.skips 39 (by kernel_rfl) ?_
   refine Rg.p 72 (.pick (.tmp 67) (.tmp 71) (.const (.bool false))) (pv_pick_f rfl rfl) ?_
   exact Rg.em 67 h85 (at_f h85) rfl rfl
  refine Rg.mv 73 72 rfl ?_
  refine Rg.ga 46 78 73 (decide (n.ts = 0) && (decide (n.tn = 0) && true)) rfl (fun h110 => ?_) (fun h110 => ?_) ?_
  ·
   have ⟨h111, h112⟩ := and_t h110
   have ⟨h113, h114⟩ := and_t h111
   have ⟨h115, h116⟩ := and_t h113
   have ⟨h117, h118⟩ := and_t h115
   have ⟨h119, h120⟩ := and_t h117
   have ⟨h121, h122⟩ := and_t h119
   have ⟨h123, h124⟩ := and_t h121
   have h125 := of_decide_eq_true h123
   have h126 := of_decide_eq_true h124
   have h127 := of_decide_eq_true h122
   have ⟨h128, h129⟩ := and_t h120
   have ⟨h130, h131⟩ := and_t h128
   have h132 := of_decide_eq_true h130
   have h133 := of_decide_eq_true h131
   have h134 := of_decide_eq_true h129
   have h135 := of_decide_eq_true h118
   have h136 := of_decide_eq_true h116
   refine Rg.pg 40 true 74 (.fieldAddr 44 (.tmp 1) 8) (pv_fieldAddr rfl (n := 10) (by kernel_rfl)) ?_
   refine Rg.pg 40 true 75 (.load 36 (.tmp 74)) (v := .agg #[.int .u32 n.ts, .int .u32 n.tn]) (pv_load_blk_agg 0 rfl rfl (vs := #[.int .u32 n.ts, .int .u32 n.tn]) (by kernel_rfl) (by kernel_rfl) (agg_rfl (by kernel_rfl))) ?_
   refine Rg.pg 40 true 76 (.build 36 #[]) (v := .agg #[.int .u32 0, .int .u32 0]) (pv_build (parts := []) (vs := []) (fs := [(0, 1), (1, 1)]) (zv := .agg #[.int .u32 0, .int .u32 0]) (cs := #[.int .u32 0, .int .u32 0]) rfl (by kernel_rfl) (by kernel_rfl) (by kernel_rfl)) ?_
   refine Rg.pg 40 true 77 (.binOp .eql 36 (.tmp 75) (.tmp 76) 36) (pv_eql_struct (b := (decide (n.ts = 0) && (decide (n.tn = 0) && true))) rfl rfl (by kernel_rfl) (by kernel_rfl) (by kernel_rfl) (by kernel_rfl)) ?_
   refine Rg.p 78 (.pick (.tmp 73) (.tmp 77) (.const (.bool false))) (pv_pick_t rfl rfl) ?_
   exact Rg.em 73 h110 (at_t h110) rfl rfl
  ·
   refine Rg.skips 45 (by kernel_rfl) ?_
   refine Rg.p 78 (.pick (.tmp 73) (.tmp 77) (.const (.bool false))) (pv_pick_f rfl rfl) ?_
   exact Rg.em 73 h110 (at_f h110) rfl rfl
  refine Rg.as 2 78 rfl ?_
  refine Rg.nx (fun _ _ h => h) [3,2,1] rfl ?_
  refine Ev.rt ?_
  refine At.via (Q := Q) hQ ?_
  refine At.ret1 rfl rfl rfl ?_
  exact fun w hw => ⟨(by unfold onlyS; rw [h10]; rfl), hw.base_below 1 rfl⟩
 ·
  have h137 := of_decide_eq_false h10
  refine Ev.sr 2 ?_
  refine Rg.p 80 (.binOp .eql 33 (.tmp 30) (.const (.int .u32 1)) 33) (pv_eql rfl rfl) ?_
  refine Rg.as 79 80 rfl ?_
  refine Rg.nx (fun _ _ h => h) [79,30,4,3,2,1] rfl ?_
  refine Ev.cd 79 rfl (fun h138 => ?_) (fun h138 => ?_)
  ·
   have h139 := of_decide_eq_true h138
   refine Ev.sr 13 ?_
   refine Rg.fa 81 44 1 11 21 rfl ?_
   refine Rg.ld 82 9 81 0 rfl rfl rfl ?_
   refine Rg.p 83 (.binOp .eql 9 (.tmp 82) (.const (.string ⟨#[]⟩)) 9) (pv_eql_str rfl rfl) ?_
   refine Rg.mv 84 83 rfl ?_
   refine Rg.ga 6 86 84 (((decide ((n.list.length : Int) = 0)) && (decide (n.parent = 0))) && (decide (n.next = 0))) rfl (fun h140 => ?_) (fun h140 => ?_) ?_
   ·
    have h141 := of_decide_eq_true h140
    refine Rg.pg 3 true 85 (.move (.tmp 4)) (pv_move rfl) ?_
    refine Rg.p 86 (.pick (.tmp 84) (.tmp 85) (.const (.bool false))) (pv_pick_t rfl rfl) ?_
    exact Rg.em 84 h140 (at_t h140) rfl rfl
   ·
    refine Rg.skips 5 (by kernel_rfl) ?_
    refine Rg.p 86 (.pick (.tmp 84) (.tmp 85) (.const (.bool false))) (pv_pick_f rfl rfl) ?_
    exact Rg.em 84 h140 (at_f h140) rfl rfl
   refine Rg.mv 87 86 rfl ?_
   refine Rg.ga 12 92 87 (decide ((n.data.length : Int) ≤ 65536)) rfl (fun h142 => ?_) (fun h142 => ?_) ?_
   ·
    have ⟨h143, h144⟩ := and_t h142
    have h145 := of_decide_eq_true h143
    have ⟨h146, h147⟩ := and_t h144
    have ⟨h148, h149⟩ := and_t h146
    have h150 := of_decide_eq_true h148
    have h151 := of_decide_eq_true h149
    have h152 := of_decide_eq_true h147
    refine Rg.pg 6 true 88 (.fieldAddr 44 (.tmp 1) 9) (pv_fieldAddr rfl (n := 12) (by kernel_rfl)) ?_
    refine Rg.pg 6 true 89 (.load 29 (.tmp 88)) (v := .slice a.dA n.data.length a.dCap) (pv_load_blk 0 rfl rfl (by kernel_rfl) rfl) ?_
    refine Rg.pg 6 true 90 (.call { callee := .builtin .len, args := #[.tmp 89], argTypes := #[29] }) (pv_len_slice rfl (by kernel_rfl)) ?_
    refine Rg.pg 6 true 91 (.binOp .leq 3 (.tmp 90) (.const (.int .i64 65536)) 3) (pv_leq rfl rfl) ?_
    refine Rg.p 92 (.pick (.tmp 87) (.tmp 91) (.const (.bool false))) (pv_pick_t rfl rfl) ?_
    exact Rg.em 87 h142 (at_t h142) rfl rfl
   ·
    refine Rg.skips 11 (by kernel_rfl) ?_
    refine Rg.p 92 (.pick (.tmp 87) (.tmp 91) (.const (.bool false))) (pv_pick_f rfl rfl) ?_
    exact Rg.em 87 h142 (at_f h142) rfl rfl
   refine Rg.as 2 92 rfl ?_
   refine Rg.nx (fun _ _ h => h) [3,2,1] rfl ?_
   refine Ev.rt ?_
   refine At.via (Q := Q) hQ ?_
   refine At.ret1 rfl rfl rfl ?_
   exact fun w hw => ⟨(by unfold onlyS; rw [h10, h138]; rfl), hw.base_below 1 rfl⟩
  ·
   have h153 := of_decide_eq_false h138
   refine Ev.sr 2 ?_
   refine Rg.p 94 (.binOp .eql 33 (.tmp 30) (.const (.int .u32 5)) 33) (pv_eql rfl rfl) ?_
   refine Rg.as 93 94 rfl ?_
   refine Rg.nx (fun _ _ h => h) [93,4,3,2,1] rfl ?_
   refine Ev.cd 93 rfl (fun h154 => ?_) (fun h154 => ?_)
   ·
    have h155 := of_decide_eq_true h154
    refine Ev.sr 11 ?_
    refine Rg.mv 95 3 rfl ?_
    refine Rg.mv 96 95 rfl ?_
    refine Rg.ga 4 98 96 (((decide ((n.list.length : Int) = 0)) && (decide (n.parent = 0))) && (decide (n.next = 0))) rfl (fun h156 => ?_) (fun h156 => ?_) ?_
    ·
     have ⟨h157, h158⟩ := and_t h156
     have h159 := of_decide_eq_true h157
     have h160 := of_decide_eq_true h158
     refine Rg.pg 1 true 97 (.move (.tmp 4)) (pv_move rfl) ?_
     refine Rg.p 98 (.pick (.tmp 96) (.tmp 97) (.const (.bool false))) (pv_pick_t rfl rfl) ?_
     exact Rg.em 96 h156 (at_t h156) rfl rfl
    ·
     refine Rg.skips 3 (by kernel_rfl) ?_
     refine Rg.p 98 (.pick (.tmp 96) (.tmp 97) (.const (.bool false))) (pv_pick_f rfl rfl) ?_
     exact Rg.em 96 h156 (at_f h156) rfl rfl
    refine Rg.mv 99 98 rfl ?_
    refine Rg.ga 10 104 99 (decide ((pathS n.target) = 0)) rfl (fun h161 => ?_) (fun h161 => ?_) ?_
    ·
     have ⟨h162, h163⟩ := and_t h161
     have ⟨h164, h165⟩ := and_t h162
     have h166 := of_decide_eq_true h164
     have h167 := of_decide_eq_true h165
     have ⟨h168, h169⟩ := and_t h163
     have ⟨h170, h171⟩ := and_t h168
     have h172 := of_decide_eq_true h170
     have h173 := of_decide_eq_true h171
     have h174 := of_decide_eq_true h169
     refine Rg.pg 4 true 100 (.fieldAddr 44 (.tmp 1) 11) (pv_fieldAddr rfl (n := 21) (by kernel_rfl)) ?_
     refine Rg.pg 4 true 101 (.load 9 (.tmp 100)) (v := .string n.target) (pv_load_blk 0 rfl rfl (by kernel_rfl) rfl) ?_
     refine rg_call (d := some 102) (f := 111) (xs := #[.tmp 101]) (ts := #[9]) (g := some (4, true)) (v := .int .u32 (pathS n.target)) (by kernel_rfl) (by kernel_rfl) (by kernel_rfl) rfl (fun w hw => Path_calls (hW.target)) ?_
     refine Rg.pg 4 true 103 (.binOp .eql 45 (.tmp 102) (.const (.int .u32 0)) 45) (pv_eql rfl rfl) ?_
     refine Rg.p 104 (.pick (.tmp 99) (.tmp 103) (.const (.bool false))) (pv_pick_t rfl rfl) ?_
     exact Rg.em 99 h161 (at_t h161) rfl rfl
    ·
     refine Rg.skips 9 (by kernel_rfl) ?_
     refine Rg.p 104 (.pick (.tmp 99) (.tmp 103) (.const (.bool false))) (pv_pick_f rfl rfl) ?_
     exact Rg.em 99 h161 (at_f h161) rfl rfl
    refine Rg.as 2 104 rfl ?_
    refine Rg.nx (fun _ _ h => h) [3,2,1] rfl ?_
    refine Ev.rt ?_
    refine At.via (Q := Q) hQ ?_
    refine At.ret1 rfl rfl rfl ?_
    exact fun w hw => ⟨(by unfold onlyS; rw [h10, h138, h154]; rfl), hw.base_below 1 rfl⟩
   ·
    have h175 := of_decide_eq_false h154
    refine Ev.sk ?_
    refine At.nx (fun _ _ h => h) [3,2,1] rfl ?_
    refine Ev.sr 12 ?_
    refine Rg.fa 105 44 1 0 0 rfl ?_
    refine Rg.ld 106 33 105 0 rfl rfl rfl ?_
    refine Rg.p 107 (.binOp .eql 33 (.tmp 106) (.const (.int .u32 2)) 33) (pv_eql rfl rfl) ?_
    refine Rg.mv 108 107 rfl ?_
    refine Rg.ga 6 110 108 ((decide ((n.data.length : Int) = 0)) && (decide ([n.verf.a0, n.verf.a1, n.verf.a2, n.verf.a3, n.verf.a4, n.verf.a5, n.verf.a6, n.verf.a7] = [0, 0, 0, 0, 0, 0, 0, 0]))) rfl (fun h176 => ?_) (fun h176 => ?_) ?_
    ·
     have h177 := of_decide_eq_true h176
     refine Rg.pg 3 true 109 (.move (.tmp 3)) (pv_move rfl) ?_
     refine Rg.p 110 (.pick (.tmp 108) (.tmp 109) (.const (.bool false))) (pv_pick_t rfl rfl) ?_
     exact Rg.em 108 h176 (at_t h176) rfl rfl
    ·
     refine Rg.skips 5 (by kernel_rfl) ?_
     refine Rg.p 110 (.pick (.tmp 108) (.tmp 109) (.const (.bool false))) (pv_pick_f rfl rfl) ?_
     exact Rg.em 108 h176 (at_f h176) rfl rfl
    refine Rg.mv 111 110 rfl ?_
    refine Rg.ga 11 115 111 (decide (n.target = ⟨#[]⟩)) rfl (fun h178 => ?_) (fun h178 => ?_) ?_
    ·
     have ⟨h179, h180⟩ := and_t h178
     have h181 := of_decide_eq_true h179
     have ⟨h182, h183⟩ := and_t h180
     have h184 := of_decide_eq_true h182
     have h185 := of_decide_eq_true h183
     refine Rg.pg 6 true 112 (.fieldAddr 44 (.tmp 1) 11) (pv_fieldAddr rfl (n := 21) (by kernel_rfl)) ?_
     refine Rg.pg 6 true 113 (.load 9 (.tmp 112)) (v := .string n.target) (pv_load_blk 0 rfl rfl (by kernel_rfl) rfl) ?_
     refine Rg.pg 6 true 114 (.binOp .eql 9 (.tmp 113) (.const (.string ⟨#[]⟩)) 9) (pv_eql_str rfl rfl) ?_
     refine Rg.p 115 (.pick (.tmp 111) (.tmp 114) (.const (.bool false))) (pv_pick_t rfl rfl) ?_
     exact Rg.em 111 h178 (at_t h178) rfl rfl
    ·
     refine Rg.skips 10 (by kernel_rfl) ?_
     refine Rg.p 115 (.pick (.tmp 111) (.tmp 114) (.const (.bool false))) (pv_pick_f rfl rfl) ?_
     exact Rg.em 111 h178 (at_f h178) rfl rfl
    refine Rg.as 2 115 rfl ?_
    refine Rg.nx (fun _ _ h => h) [2] rfl ?_
    refine Ev.rt ?_
    refine At.via (Q := Q) hQ ?_
    refine At.ret1 rfl rfl rfl ?_
    exact fun w hw => ⟨(by unfold onlyS; rw [h10, h138, h154]; rfl), hw.base_below 1 rfl⟩

set_option maxHeartbeats 8000000 in
theorem check1_calls {n : Node} {a : Loc} {w : World} (hW : NodeWf n) :
  Calls Try.prog 56 #[.agg (n.cells a)] w (Ret w (.bool (!onlyS n))) := by
 refine calls_ofQ (args := [_]) [base w (Low w)] Try.func56 (by kernel_rfl) (by kernel_rfl) (Heap.start w) ?_
 intro Q hQ
 refine Ev.sr 2 ?_
 refine Rg.bx 1 44 (.tmp 0) rfl fun b1 => ?_
 refine Rg.ac 2 (.bool false) ?_
 refine Rg.nx (fun _ _ h => h) [2,1] rfl ?_
 refine Ev.sr 4 ?_
 refine Rg.p 3 (.load 44 (.tmp 1)) (v := .agg (n.cells a)) (pv_load_blk_whole 0 rfl rfl (by kernel_rfl) (by kernel_rfl)) ?_
 refine Rg.cl (some 4) 57 #[.tmp 3] #[44] (v := .bool (onlyS n)) rfl (fun w hw => only_calls (hW)) ?_
 refine Rg.p 5 (.unOp .not 4 (.tmp 4)) (pv_not (b := onlyS n) rfl) ?_
 refine Rg.as 2 5 rfl ?_
 refine Rg.nx (fun _ _ h => h) [2] rfl ?_
 refine Ev.rt ?_
 refine At.via (Q := Q) hQ ?_
 refine At.ret1 rfl rfl rfl ?_
 exact fun w hw => ⟨rfl, hw.base_below 1 rfl⟩

noncomputable def anyBad (ns : List Node) : Bool := (List.range ns.length).any fun i => !onlyS (nd ns i)
theorem anyBad_t {ns : List Node} {i : Nat} (hi : i < ns.length) (h : (!onlyS (nd ns i)) = true) : anyBad ns = true := List.any_eq_true.2 ⟨i, List.mem_range.2 hi, h⟩
theorem anyBad_f {ns : List Node} (h : ∀ i, i < ns.length → (!onlyS (nd ns i)) = false) : anyBad ns = false := by
  rw [anyBad, List.any_eq_false]
  intro i hi
  rw [h i (List.mem_range.1 hi)]; simp

set_option maxHeartbeats 8000000 in
theorem indexFuncN_calls {p : Option Addr} {ns : List Node} {al : List Loc} {cap : Nat} {w : World} (hT : NodesAt (Low w) w p ns al) (hW : NodesWf ns) :
  Calls Try.prog 110 #[.slice p ns.length cap, .func (.func 56) #[] #[]] w (RetN w (fun v : Int => (0 ≤ v ∧ anyBad ns = true) ∨ (v = -1 ∧ anyBad ns = false)) (fun v => .int .i64 v) (fun _ => [])) := by
 refine calls_ofQ (args := [_, _]) [base w (Low w)] Try.func110 (by kernel_rfl) (by kernel_rfl) (Heap.start w) ?_
 intro Q hQ
 have hlen := hW.len
 refine Ev.sr 1 ?_
 refine Rg.ac 4 (.int .i64 0) ?_
 refine Rg.nx (fun _ _ h => h) [4,1,0] rfl ?_
 refine Ev.sq ?_
 refine Ev.sr 3 ?_
 refine Rg.mv 6 0 rfl ?_
 refine Rg.p 7 (.call { callee := .builtin .len, args := #[.tmp 6], argTypes := #[22] }) (pv_len_slice rfl (by kernel_rfl)) ?_
 refine Rg.mc 8 (.int .i64 0) ?_
 refine Rg.nx (fun _ _ h => h) [8,7,4,1,0] rfl ?_
 refine Ev.bk 0 ?_
 refine ev_loop (T := Nat) (fun k => [(0, .slice p ns.length cap), (1, .func (.func 56) #[] #[]), (4, .int .i64 0), (7, .int .i64 (ns.length : Int)), (8, .int .i64 (k : Int))]) (fun k => [base w (Low w)]) (fun k => k ≤ ns.length ∧ ∀ i_, i_ < k → (!onlyS (nd ns i_)) = false) (fun k => ns.length - k) 0 [0] (by kernel_rfl) ⟨Nat.zero_le _, fun i_ h_ => absurd h_ (Nat.not_lt_zero _)⟩ (.cons (rfl) (.cons (rfl) (.cons (rfl) (.cons (rfl) (.cons (rfl) (.nil _)))))) rfl (by decide) ?_
 rintro k ⟨(hk : k ≤ ns.length), (hno : ∀ i_, i_ < k → (!onlyS (nd ns i_)) = false)⟩
 show Ev _ _ [(0, .slice p ns.length cap), (1, .func (.func 56) #[] #[]), (4, .int .i64 0), (7, .int .i64 (ns.length : Int)), (8, .int .i64 (k : Int))] [base w (Low w)] _
 refine Ev.sr 1 ?_
 refine Rg.p 9 (.binOp .lss 3 (.tmp 8) (.tmp 7) 3) (pv_lss rfl rfl) ?_
 refine Rg.nx (fun _ _ h => h) [9,8,7,4,1,0] rfl ?_
 refine Ev.sq ?_
 refine Ev.cd 9 rfl (fun h1 => ?_) (fun h1 => ?_)
 ·
  have h2 := of_decide_eq_true h1
  refine Ev.sk ?_
  refine At.nx (fun _ _ h => h) [9,8,7,4,1,0] rfl ?_
  refine Ev.sq ?_
  refine Ev.bk 1 ?_
  refine Ev.sr 2 ?_
  refine Rg.mv 10 8 rfl ?_
  refine Rg.as 5 10 rfl ?_
  refine Rg.nx (fun _ _ h => h) [10,9,8,7,5,4,1,0] rfl ?_
  refine Ev.sr 6 ?_
  refine Rg.mv 11 1 rfl ?_
  refine Rg.mv 12 0 rfl ?_
  refine Rg.mv 13 5 rfl ?_
  have ⟨q1, o2, hp3⟩ := hT.rows.adr (by omega)
  refine Rg.p 14 (.indexAddr 22 (.tmp 12) (.tmp 13)) (v := .pointer (some ⟨q1, o2 + ((k : Int)).toNat * 25, none⟩)) (pv_indexAddr' rfl hp3 rfl (e := 44) (sz := 25) (by kernel_rfl) (by omega) (by omega)) ?_
  refine Rg.p 15 (.load 44 (.tmp 14)) (v := .agg ((nd ns k).cells (lc al k))) (pv_load_node (i := ((k : Int)).toNat) (ns := ns) rfl hp3 (by omega) (by kernel_rfl) (by kernel_rfl) (fun w hw => ((hT).keep (hw.at_ 0 rfl) (fun k hk => hw.lt 0 rfl hk)))) ?_
  refine rg_callD (d := some 16) (f := 56) (fo := .tmp 11) (caps := #[]) (xs := #[.tmp 15]) (ts := #[44]) (g := none) (v := .bool (!(onlyS (nd ns k)))) (by kernel_rfl) (by kernel_rfl) rfl (by kernel_rfl) rfl (fun w hw => check1_calls (hW.node _)) ?_
  refine Rg.nx (fun _ _ h => h) [16,15,14,13,12,11,10,9,8,7,5,4,1,0] rfl ?_
  refine Ev.cd 16 rfl (fun h3 => ?_) (fun h3 => ?_)
  ·
   have h4 := not_t h3
   refine Ev.sr 2 ?_
   refine Rg.mv 17 5 rfl ?_
   refine Rg.as 4 17 rfl ?_
   refine Rg.nx (fun _ _ h => h) [17,16,15,14,13,12,11,10,9,8,7,5,4,1,0] rfl ?_
   refine Ev.rt ?_
   refine At.via (Q := Q) hQ ?_
   refine At.ret1 rfl rfl rfl ?_
   exact fun w hw => ⟨(k : Int), .inl ⟨(by omega), anyBad_t (by omega) h3⟩, rfl, hw.pick [0] (by decide)⟩
  ·
   have h5 := not_f h3
   refine Ev.sk ?_
   refine At.nx (fun _ _ h => h) [16,15,14,13,12,11,10,9,8,7,5,4,1,0] rfl ?_
   refine Ev.rg 2 ?_
   refine Rg.p 18 (.binOp .add 3 (.tmp 8) (.const (.int .i64 1)) 3) (pv_addb rfl rfl (in_i64 (by omega) (by omega))) ?_
   refine Rg.mv 8 18 rfl ?_
   refine Rg.fin rfl ?_
   refine At.round (fun _ _ h => h) (k + 1) [0] ⟨(by omega), (fun i_ h_ => by rcases Nat.lt_succ_iff_lt_or_eq.1 h_ with h1_ | h1_; exact hno i_ h1_; subst h1_; exact h3)⟩ (by show ns.length - (k + 1) < ns.length - k; omega) (.cons (rfl) (.cons (rfl) (.cons (rfl) (.cons (rfl) (.cons (rfl) (.nil _)))))) rfl (by decide)
 ·
  have h6 := of_decide_eq_false h1
  refine Ev.xt 0 ?_
  refine At.nx (fun _ _ h => h) [4] rfl ?_
  refine Ev.sr 1 ?_
  refine Rg.ac 4 (.int .i64 (-1)) ?_
  refine Rg.nx (fun _ _ h => h) [4] rfl ?_
  refine Ev.rt ?_
  refine At.via (Q := Q) hQ ?_
  refine At.ret1 rfl rfl rfl ?_
  exact fun w hw => ⟨-1, .inr ⟨rfl, anyBad_f (fun i hi => hno i (by omega))⟩, rfl, hw.pick [0] (by decide)⟩

set_option maxHeartbeats 8000000 in
theorem containsFunc_calls {p : Option Addr} {ns : List Node} {al : List Loc} {cap : Nat} {w : World} (hT : NodesAt (Low w) w p ns al) (hW : NodesWf ns) :
  Calls Try.prog 55 #[.slice p ns.length cap, .func (.func 56) #[] #[]] w (Ret w (.bool (anyBad ns))) := by
 refine calls_ofQ (args := [_, _]) [base w (Low w)] Try.func55 (by kernel_rfl) (by kernel_rfl) (Heap.start w) ?_
 intro Q hQ
 refine Ev.sr 1 ?_
 refine Rg.ac 4 (.bool false) ?_
 refine Rg.nx (fun _ _ h => h) [4,1,0] rfl ?_
 refine Ev.sr 5 ?_
 refine Rg.mv 5 0 rfl ?_
 refine Rg.mv 6 1 rfl ?_
 refine Rg.cn (T := Int) (some 7) 110 #[.tmp 5, .tmp 6] #[22, 122] (v := fun v1 => .int .i64 v1) (L := fun v1 => []) rfl (fun w hw => indexFuncN_calls ((hT).keep (hw.at_ 0 rfl) (fun k hk => hw.lt 0 rfl hk)) hW) ?_
 rintro v1 hv_v1
 dsimp only [putE, List.append, HAppend.hAppend, Append.append]
 refine Rg.p 8 (.binOp .geq 3 (.tmp 7) (.const (.int .i64 0)) 3) (pv_geq rfl rfl) ?_
 refine Rg.as 4 8 rfl ?_
 refine Rg.nx (fun _ _ h => h) [4] rfl ?_
 refine Ev.rt ?_
 refine At.via (Q := Q) hQ ?_
 refine At.ret1 rfl rfl rfl ?_
 exact fun w hw => ⟨(by rcases hv_v1 with ⟨h1_, h2_⟩ | ⟨h1_, h2_⟩ <;> rw [h2_] <;> simp [h1_]), hw.base_below 0 rfl⟩

end Go.Proofs.Ytfhhggcdmgjbcaa.Sx
