/-
  A part of the walk of the seat: laws of a small proof system, and contracts of functions, each proved. Conditions: as each theorem says.
-/
import Derived.Test.YtfhhggcdmgjbcaaProg
import Derived.Test.YtfhhggcdmgjbcaaT11
namespace Go.Proofs.Ytfhhggcdmgjbcaa.Sx
open Go Go.RowKit Go.Proofs

def verfL (v : V8) : List Int := [v.a0, v.a1, v.a2, v.a3, v.a4, v.a5, v.a6, v.a7]
def fileS (n : Node) : Bool := decide ((n.data.length : Int) = 0) && decide (verfL n.verf = [0, 0, 0, 0, 0, 0, 0, 0])
def listS (n : Node) : Bool := (decide ((n.list.length : Int) = 0) && decide (n.parent = 0)) && decide (n.next = 0)
def timeZ (a b : Int) : Bool := decide (a = 0) && (decide (b = 0) && true)
noncomputable def onlyS (n : Node) : Bool :=
  cond (decide (n.kind = 0)) ((((((((fileS n && decide (n.target = ⟨#[]⟩)) && listS n) && decide (bitsI .or .u32 (bitsI .or .u32 (bitsI .or .u32 n.gen n.mode) n.user) n.group = 0)) && decide (n.links = 0)) && timeZ n.rs n.rn) && timeZ n.ws n.wn) && timeZ n.ts n.tn)) <|
  cond (decide (n.kind = 1)) ((decide (n.target = ⟨#[]⟩) && listS n) && decide ((n.data.length : Int) ≤ 65536)) <|
  cond (decide (n.kind = 5)) ((fileS n && listS n) && decide (pathS n.target = 0))
    ((decide (n.kind = 2) && fileS n) && decide (n.target = ⟨#[]⟩))

set_option maxHeartbeats 8000000 in
theorem only_calls {n : Node} {a : Loc} {w : World} (hW : NodeWf n) :
  Calls Try.prog 57 #[.agg (n.cells a)] w (Ret w (.bool (onlyS n))) := by
 refine calls_ofQ (args := [_]) [base w (Low w)] Try.func57 (by kernel_rfl) (by kernel_rfl) (Heap.start w) ?_
 intro Q hQ
 refine Ev.sr 2 ?_
 refine Rg.bx 1 44 (.tmp 0) rfl fun b1 => ?_
 refine Rg.ac 2 (.bool false) ?_
 refine Rg.nx (fun _ _ h => h) [2,1] rfl ?_
 refine Ev.sr 11 ?_
 refine Rg.fa 5 44 1 9 12 rfl ?_
 refine Rg.ld 6 29 5 0 rfl rfl rfl ?_
 refine Rg.p 7 (.call { callee := .builtin .len, args := #[.tmp 6], argTypes := #[29] }) (pv_len_slice rfl (by kernel_rfl)) ?_
 refine Rg.p 8 (.binOp .eql 3 (.tmp 7) (.const (.int .i64 0)) 3) (pv_eql rfl rfl) ?_
 refine Rg.mv 9 8 rfl ?_
 refine Rg.ga 10 14 9 (decide ([n.verf.a0, n.verf.a1, n.verf.a2, n.verf.a3, n.verf.a4, n.verf.a5, n.verf.a6, n.verf.a7] = [0, 0, 0, 0, 0, 0, 0, 0])) rfl (fun h1 => ?_) (fun h1 => ?_) ?_
 ·
  have h2 := of_decide_eq_true h1
  refine Rg.pg 4 true 10 (.fieldAddr 44 (.tmp 1) 10) (pv_fieldAddr rfl (n := 13) (by kernel_rfl)) ?_
  refine Rg.pg 4 true 11 (.load 41 (.tmp 10)) (v := .agg #[.int .u8 n.verf.a0, .int .u8 n.verf.a1, .int .u8 n.verf.a2, .int .u8 n.verf.a3, .int .u8 n.verf.a4, .int .u8 n.verf.a5, .int .u8 n.verf.a6, .int .u8 n.verf.a7]) (pv_load_blk_agg 0 rfl rfl (vs := #[.int .u8 n.verf.a0, .int .u8 n.verf.a1, .int .u8 n.verf.a2, .int .u8 n.verf.a3, .int .u8 n.verf.a4, .int .u8 n.verf.a5, .int .u8 n.verf.a6, .int .u8 n.verf.a7]) (by kernel_rfl) (by kernel_rfl) (agg_rfl (by kernel_rfl))) ?_
  refine Rg.pg 4 true 12 (.build 41 #[]) (v := .agg #[.int .u8 0, .int .u8 0, .int .u8 0, .int .u8 0, .int .u8 0, .int .u8 0, .int .u8 0, .int .u8 0]) (pv_buildArr (e := 5) (sz := 1) (n := 8) (parts := []) (vs := []) (zv := .agg #[.int .u8 0, .int .u8 0, .int .u8 0, .int .u8 0, .int .u8 0, .int .u8 0, .int .u8 0, .int .u8 0]) (cs := #[.int .u8 0, .int .u8 0, .int .u8 0, .int .u8 0, .int .u8 0, .int .u8 0, .int .u8 0, .int .u8 0]) rfl (by kernel_rfl) (by kernel_rfl) (by kernel_rfl) (by kernel_rfl)) ?_
  refine Rg.pg 4 true 13 (.binOp .eql 41 (.tmp 11) (.tmp 12) 41) (v := .bool (decide ([n.verf.a0, n.verf.a1, n.verf.a2, n.verf.a3, n.verf.a4, n.verf.a5, n.verf.a6, n.verf.a7] = [0, 0, 0, 0, 0, 0, 0, 0]))) (pv_eql_arr (n := 8) (e := 5) (q := .u8) (us := [n.verf.a0, n.verf.a1, n.verf.a2, n.verf.a3, n.verf.a4, n.verf.a5, n.verf.a6, n.verf.a7]) (vs := [0, 0, 0, 0, 0, 0, 0, 0]) rfl rfl (by kernel_rfl) (by kernel_rfl) (by kernel_rfl) (by kernel_rfl) rfl rfl) ?_
  refine Rg.p 14 (.pick (.tmp 9) (.tmp 13) (.const (.bool false))) (pv_pick_t rfl rfl) ?_
  exact Rg.em 9 h1 (at_t h1) rfl rfl
 ·
  refine Rg.skips 9 (by kernel_rfl) ?_
  refine Rg.p 14 (.pick (.tmp 9) (.tmp 13) (.const (.bool false))) (pv_pick_f rfl rfl) ?_
  exact Rg.em 9 h1 (at_f h1) rfl rfl
 refine Rg.as 3 14 rfl ?_
 refine Rg.nx (fun _ _ h => h) [3,2,1] rfl ?_
 refine Ev.sr 15 ?_
 refine Rg.fa 15 44 1 12 22 rfl ?_
 refine Rg.ld 16 42 15 0 rfl rfl rfl ?_
 refine Rg.p 17 (.call { callee := .builtin .len, args := #[.tmp 16], argTypes := #[42] }) (pv_len_slice rfl (by kernel_rfl)) ?_
 refine Rg.p 18 (.binOp .eql 3 (.tmp 17) (.const (.int .i64 0)) 3) (pv_eql rfl rfl) ?_
 refine Rg.mv 19 18 rfl ?_
 refine Rg.ga 9 23 19 (decide (n.parent = 0)) rfl (fun h3 => ?_) (fun h3 => ?_) ?_
 ·
  have h4 := of_decide_eq_true h3
  refine Rg.pg 4 true 20 (.fieldAddr 44 (.tmp 1) 13) (pv_fieldAddr rfl (n := 23) (by kernel_rfl)) ?_
  refine Rg.pg 4 true 21 (.load 3 (.tmp 20)) (v := .int .i64 n.parent) (pv_load_blk 0 rfl rfl (by kernel_rfl) rfl) ?_
  refine Rg.pg 4 true 22 (.binOp .eql 3 (.tmp 21) (.const (.int .i64 0)) 3) (pv_eql rfl rfl) ?_
  refine Rg.p 23 (.pick (.tmp 19) (.tmp 22) (.const (.bool false))) (pv_pick_t rfl rfl) ?_
  exact Rg.em 19 h3 (at_t h3) rfl rfl
 ·
  refine Rg.skips 8 (by kernel_rfl) ?_
  refine Rg.p 23 (.pick (.tmp 19) (.tmp 22) (.const (.bool false))) (pv_pick_f rfl rfl) ?_
  exact Rg.em 19 h3 (at_f h3) rfl rfl
 refine Rg.mv 24 23 rfl ?_
 refine Rg.ga 14 28 24 (decide (n.next = 0)) rfl (fun h5 => ?_) (fun h5 => ?_) ?_
 ·
  have ⟨h6, h7⟩ := and_t h5
  have h8 := of_decide_eq_true h6
  have h9 := of_decide_eq_true h7
  refine Rg.pg 9 true 25 (.fieldAddr 44 (.tmp 1) 14) (pv_fieldAddr rfl (n := 24) (by kernel_rfl)) ?_
  refine Rg.pg 9 true 26 (.load 34 (.tmp 25)) (v := .int .u64 n.next) (pv_load_blk 0 rfl rfl (by kernel_rfl) rfl) ?_
  refine Rg.pg 9 true 27 (.binOp .eql 34 (.tmp 26) (.const (.int .u64 0)) 34) (pv_eql rfl rfl) ?_
  refine Rg.p 28 (.pick (.tmp 24) (.tmp 27) (.const (.bool false))) (pv_pick_t rfl rfl) ?_
  exact Rg.em 24 h5 (at_t h5) rfl rfl
 ·
  refine Rg.skips 13 (by kernel_rfl) ?_
  refine Rg.p 28 (.pick (.tmp 24) (.tmp 27) (.const (.bool false))) (pv_pick_f rfl rfl) ?_
  exact Rg.em 24 h5 (at_f h5) rfl rfl
 refine Rg.as 4 28 rfl ?_
 refine Rg.nx (fun _ _ h => h) [4,3,2,1] rfl ?_
 refine Ev.sq ?_
 refine Ev.sr 2 ?_
 refine Rg.fa 29 44 1 0 0 rfl ?_
 refine Rg.ld 30 33 29 0 rfl rfl rfl ?_
 refine Rg.nx (fun _ _ h => h) [30,4,3,2,1] rfl ?_
 refine Ev.bk 0 ?_
 refine Ev.sr 2 ?_
 refine Rg.p 32 (.binOp .eql 33 (.tmp 30) (.const (.int .u32 0)) 33) (pv_eql rfl rfl) ?_
 refine Rg.as 31 32 rfl ?_
 refine Rg.nx (fun _ _ h => h) [31,30,4,3,2,1] rfl ?_
 refine Ev.cd 31 rfl (fun h10 => ?_) (fun h10 => ?_)
 ·
  have h11 := of_decide_eq_true h10
  refine Ev.sr 47 ?_
  refine Rg.mv 33 3 rfl ?_
  refine Rg.mv 34 33 rfl ?_
  refine Rg.ga 6 38 34 (decide (n.target = ⟨#[]⟩)) rfl (fun h12 => ?_) (fun h12 => ?_) ?_
  ·
   have ⟨h13, h14⟩ := and_t h12
   have h15 := of_decide_eq_true h13
   have h16 := of_decide_eq_true h14
   refine Rg.pg 1 true 35 (.fieldAddr 44 (.tmp 1) 11) (pv_fieldAddr rfl (n := 21) (by kernel_rfl)) ?_
   refine Rg.pg 1 true 36 (.load 9 (.tmp 35)) (v := .string n.target) (pv_load_blk 0 rfl rfl (by kernel_rfl) rfl) ?_
   refine Rg.pg 1 true 37 (.binOp .eql 9 (.tmp 36) (.const (.string ⟨#[]⟩)) 9) (pv_eql_str rfl rfl) ?_
   refine Rg.p 38 (.pick (.tmp 34) (.tmp 37) (.const (.bool false))) (pv_pick_t rfl rfl) ?_
   exact Rg.em 34 h12 (at_t h12) rfl rfl
  ·
   refine Rg.skips 5 (by kernel_rfl) ?_
   refine Rg.p 38 (.pick (.tmp 34) (.tmp 37) (.const (.bool false))) (pv_pick_f rfl rfl) ?_
   exact Rg.em 34 h12 (at_f h12) rfl rfl
  refine Rg.mv 39 38 rfl ?_
  refine Rg.ga 9 41 39 (((decide ((n.list.length : Int) = 0)) && (decide (n.parent = 0))) && (decide (n.next = 0))) rfl (fun h17 => ?_) (fun h17 => ?_) ?_
  ·
   have ⟨h18, h19⟩ := and_t h17
   have ⟨h20, h21⟩ := and_t h18
   have h22 := of_decide_eq_true h20
   have h23 := of_decide_eq_true h21
   have h24 := of_decide_eq_true h19
   refine Rg.pg 6 true 40 (.move (.tmp 4)) (pv_move rfl) ?_
   refine Rg.p 41 (.pick (.tmp 39) (.tmp 40) (.const (.bool false))) (pv_pick_t rfl rfl) ?_
   exact Rg.em 39 h17 (at_t h17) rfl rfl
  ·
   refine Rg.skips 8 (by kernel_rfl) ?_
   refine Rg.p 41 (.pick (.tmp 39) (.tmp 40) (.const (.bool false))) (pv_pick_f rfl rfl) ?_
   exact Rg.em 39 h17 (at_f h17) rfl rfl
  refine Rg.mv 42 41 rfl ?_
  refine Rg.ga 23 55 42 (decide ((bitsI .or .u32 (bitsI .or .u32 (bitsI .or .u32 n.gen n.mode) n.user) n.group) = 0)) rfl (fun h25 => ?_) (fun h25 => ?_) ?_
  ·
   have ⟨h26, h27⟩ := and_t h25
   have ⟨h28, h29⟩ := and_t h26
   have ⟨h30, h31⟩ := and_t h28
   have h32 := of_decide_eq_true h30
   have h33 := of_decide_eq_true h31
   have h34 := of_decide_eq_true h29
   have ⟨h35, h36⟩ := and_t h27
   have ⟨h37, h38⟩ := and_t h35
   have h39 := of_decide_eq_true h37
   have h40 := of_decide_eq_true h38
   have h41 := of_decide_eq_true h36
   refine Rg.pg 9 true 43 (.fieldAddr 44 (.tmp 1) 1) (pv_fieldAddr rfl (n := 1) (by kernel_rfl)) ?_
   refine Rg.pg 9 true 44 (.load 23 (.tmp 43)) (v := .int .u32 n.gen) (pv_load_blk 0 rfl rfl (by kernel_rfl) rfl) ?_
   refine Rg.pg 9 true 45 (.fieldAddr 44 (.tmp 1) 2) (pv_fieldAddr rfl (n := 2) (by kernel_rfl)) ?_
   refine Rg.pg 9 true 46 (.load 23 (.tmp 45)) (v := .int .u32 n.mode) (pv_load_blk 0 rfl rfl (by kernel_rfl) rfl) ?_
   refine Rg.pg 9 true 47 (.binOp .or 23 (.tmp 44) (.tmp 46) 23) (pv_bits rfl rfl rfl) ?_
   refine Rg.pg 9 true 48 (.fieldAddr 44 (.tmp 1) 3) (pv_fieldAddr rfl (n := 3) (by kernel_rfl)) ?_
   refine Rg.pg 9 true 49 (.load 23 (.tmp 48)) (v := .int .u32 n.user) (pv_load_blk 0 rfl rfl (by kernel_rfl) rfl) ?_
   refine Rg.pg 9 true 50 (.binOp .or 23 (.tmp 47) (.tmp 49) 23) (pv_bits rfl rfl rfl) ?_
   refine Rg.pg 9 true 51 (.fieldAddr 44 (.tmp 1) 4) (pv_fieldAddr rfl (n := 4) (by kernel_rfl)) ?_
   refine Rg.pg 9 true 52 (.load 23 (.tmp 51)) (v := .int .u32 n.group) (pv_load_blk 0 rfl rfl (by kernel_rfl) rfl) ?_
   refine Rg.pg 9 true 53 (.binOp .or 23 (.tmp 50) (.tmp 52) 23) (pv_bits rfl rfl rfl) ?_
   refine Rg.pg 9 true 54 (.binOp .eql 23 (.tmp 53) (.const (.int .u32 0)) 23) (pv_eql rfl rfl) ?_
   refine Rg.p 55 (.pick (.tmp 42) (.tmp 54) (.const (.bool false))) (pv_pick_t rfl rfl) ?_
   exact Rg.em 42 h25 (at_t h25) rfl rfl
  ·
   refine Rg.skips 22 (by kernel_rfl) ?_
   refine Rg.p 55 (.pick (.tmp 42) (.tmp 54) (.const (.bool false))) (pv_pick_f rfl rfl) ?_
   exact Rg.em 42 h25 (at_f h25) rfl rfl
  refine Rg.mv 56 55 rfl ?_
  refine Rg.ga 28 60 56 (decide (n.links = 0)) rfl (fun h42 => ?_) (fun h42 => ?_) ?_
  ·
   have ⟨h43, h44⟩ := and_t h42
   have ⟨h45, h46⟩ := and_t h43
   have ⟨h47, h48⟩ := and_t h45
   have ⟨h49, h50⟩ := and_t h47
   have h51 := of_decide_eq_true h49
   have h52 := of_decide_eq_true h50
   have h53 := of_decide_eq_true h48
   have ⟨h54, h55⟩ := and_t h46
   have ⟨h56, h57⟩ := and_t h54
   have h58 := of_decide_eq_true h56
   have h59 := of_decide_eq_true h57
   have h60 := of_decide_eq_true h55
   have h61 := of_decide_eq_true h44
   refine Rg.pg 23 true 57 (.fieldAddr 44 (.tmp 1) 5) (pv_fieldAddr rfl (n := 5) (by kernel_rfl)) ?_
   refine Rg.pg 23 true 58 (.load 3 (.tmp 57)) (v := .int .i64 n.links) (pv_load_blk 0 rfl rfl (by kernel_rfl) rfl) ?_
   refine Rg.pg 23 true 59 (.binOp .eql 3 (.tmp 58) (.const (.int .i64 0)) 3) (pv_eql rfl rfl) ?_
   refine Rg.p 60 (.pick (.tmp 56) (.tmp 59) (.const (.bool false))) (pv_pick_t rfl rfl) ?_
   exact Rg.em 56 h42 (at_t h42) rfl rfl
  ·
   refine Rg.skips 27 (by kernel_rfl) ?_
   refine Rg.p 60 (.pick (.tmp 56) (.tmp 59) (.const (.bool false))) (pv_pick_f rfl rfl) ?_
   exact Rg.em 56 h42 (at_f h42) rfl rfl
  refine Rg.mv 61 60 rfl ?_
  refine Rg.ga 34 66 61 (decide (n.rs = 0) && (decide (n.rn = 0) && true)) rfl (fun h62 => ?_) (fun h62 => ?_) ?_
  ·
   have ⟨h63, h64⟩ := and_t h62
   have ⟨h65, h66⟩ := and_t h63
   have ⟨h67, h68⟩ := and_t h65
   have ⟨h69, h70⟩ := and_t h67
   have ⟨h71, h72⟩ := and_t h69
   have h73 := of_decide_eq_true h71
   have h74 := of_decide_eq_true h72
   have h75 := of_decide_eq_true h70
   have ⟨h76, h77⟩ := and_t h68
   have ⟨h78, h79⟩ := and_t h76
   have h80 := of_decide_eq_true h78
   have h81 := of_decide_eq_true h79
   have h82 := of_decide_eq_true h77
   have h83 := of_decide_eq_true h66
   have h84 := of_decide_eq_true h64
   refine Rg.pg 28 true 62 (.fieldAddr 44 (.tmp 1) 6) (pv_fieldAddr rfl (n := 6) (by kernel_rfl)) ?_
   refine Rg.pg 28 true 63 (.load 36 (.tmp 62)) (v := .agg #[.int .u32 n.rs, .int .u32 n.rn]) (pv_load_blk_agg 0 rfl rfl (vs := #[.int .u32 n.rs, .int .u32 n.rn]) (by kernel_rfl) (by kernel_rfl) (agg_rfl (by kernel_rfl))) ?_
   refine Rg.pg 28 true 64 (.build 36 #[]) (v := .agg #[.int .u32 0, .int .u32 0]) (pv_build (parts := []) (vs := []) (fs := [(0, 1), (1, 1)]) (zv := .agg #[.int .u32 0, .int .u32 0]) (cs := #[.int .u32 0, .int .u32 0]) rfl (by kernel_rfl) (by kernel_rfl) (by kernel_rfl)) ?_
   refine Rg.pg 28 true 65 (.binOp .eql 36 (.tmp 63) (.tmp 64) 36) (pv_eql_struct (b := (decide (n.rs = 0) && (decide (n.rn = 0) && true))) rfl rfl (by kernel_rfl) (by kernel_rfl) (by kernel_rfl) (by kernel_rfl)) ?_
   refine Rg.p 66 (.pick (.tmp 61) (.tmp 65) (.const (.bool false))) (pv_pick_t rfl rfl) ?_
   exact Rg.em 61 h62 (at_t h62) rfl rfl
  ·
   refine Rg.skips 33 (by kernel_rfl) ?_
   refine Rg.p 66 (.pick (.tmp 61) (.tmp 65) (.const (.bool false))) (pv_pick_f rfl rfl) ?_
   exact Rg.em 61 h62 (at_f h62) rfl rfl
  refine Rg.mv 67 66 rfl ?_
  refine Rg.ga 40 72 67 (decide (n.ws = 0) && (decide (n.wn = 0) && true)) rfl (fun h85 => ?_) (fun h85 => ?_) ?_
  ·
   have ⟨h86, h87⟩ := and_t h85
   have ⟨h88, h89⟩ := and_t h86
   have ⟨h90, h91⟩ := and_t h88
   have ⟨h92, h93⟩ := and_t h90
   have ⟨h94, h95⟩ := and_t h92
   have ⟨h96, h97⟩ := and_t h94
   have h98 := of_decide_eq_true h96
   have h99 := of_decide_eq_true h97
   have h100 := of_decide_eq_true h95
   have ⟨h101, h102⟩ := and_t h93
   have ⟨h103, h104⟩ := and_t h101
   have h105 := of_decide_eq_true h103
   have h106 := of_decide_eq_true h104
   have h107 := of_decide_eq_true h102
   have h108 := of_decide_eq_true h91
   have h109 := of_decide_eq_true h89
   refine Rg.pg 34 true 68 (.fieldAddr 44 (.tmp 1) 7) (pv_fieldAddr rfl (n := 8) (by kernel_rfl)) ?_
   refine Rg.pg 34 true 69 (.load 36 (.tmp 68)) (v := .agg #[.int .u32 n.ws, .int .u32 n.wn]) (pv_load_blk_agg 0 rfl rfl (vs := #[.int .u32 n.ws, .int .u32 n.wn]) (by kernel_rfl) (by kernel_rfl) (agg_rfl (by kernel_rfl))) ?_
   refine Rg.pg 34 true 70 (.build 36 #[]) (v := .agg #[.int .u32 0, .int .u32 0]) (pv_build (parts := []) (vs := []) (fs := [(0, 1), (1, 1)]) (zv := .agg #[.int .u32 0, .int .u32 0]) (cs := #[.int .u32 0, .int .u32 0]) rfl (by kernel_rfl) (by kernel_rfl) (by kernel_rfl)) ?_
   refine Rg.pg 34 true 71 (.binOp .eql 36 (.tmp 69) (.tmp 70) 36) (pv_eql_struct (b := (decide (n.ws = 0) && (decide (n.wn = 0) && true))) rfl rfl (by kernel_rfl) (by kernel_rfl) (by kernel_rfl) (by kernel_rfl)) ?_
   refine Rg.p 72 (.pick (.tmp 67) (.tmp 71) (.const (.bool false))) (pv_pick_t rfl rfl) ?_
   exact Rg.em 67 h85 (at_t h85) rfl rfl
  ·
   refine Rg.skips 39 (by kernel_rfl) ?_
   refine Rg.p 72 (.pick (.tmp 67) (.tmp 71) (.const (.bool false))) (pv_pick_f rfl rfl) ?_
   exact Rg.em 67 h85 (at_f h85) rfl rfl
  refine Rg.mv 73 72 rfl ?_
  refine Rg.ga 46 78 73 (decide (n.ts = 0) && (decide (n.tn = 0) && true)) rfl (fun h110 => ?_) (fun h110 => ?_) ?_
  ·
   have ⟨h111, h112⟩ := and_t h110
   have ⟨h113, h114⟩ := and_t h111
   have ⟨h115, h116⟩ := and_t h113
   have ⟨h117, h118⟩ := and_t h115
   have ⟨h119, h120⟩ := and_t h117
   have ⟨h121, h122⟩ := and_t h119
   have ⟨h123, h124⟩ := and_t h121
   have h125 := of_decide_eq_true h123
   have h126 := of_decide_eq_true h124
   have h127 := of_decide_eq_true h122
   have ⟨h128, h129⟩ := and_t h120
   have ⟨h130, h131⟩ := and_t h128
   have h132 := of_decide_eq_true h130
   have h133 := of_decide_eq_true h131
   have h134 := of_decide_eq_true h129
   have h135 := of_decide_eq_true h118
   have h136 := of_decide_eq_true h116
   refine Rg.pg 40 true 74 (.fieldAddr 44 (.tmp 1) 8) (pv_fieldAddr rfl (n := 10) (by kernel_rfl)) ?_
   refine Rg.pg 40 true 75 (.load 36 (.tmp 74)) (v := .agg #[.int .u32 n.ts, .int .u32 n.tn]) (pv_load_blk_agg 0 rfl rfl (vs := #[.int .u32 n.ts, .int .u32 n.tn]) (by kernel_rfl) (by kernel_rfl) (agg_rfl (by kernel_rfl))) ?_
   refine Rg.pg 40 true 76 (.build 36 #[]) (v := .agg #[.int .u32 0, .int .u32 0]) (pv_build (parts := []) (vs := []) (fs := [(0, 1), (1, 1)]) (zv := .agg #[.int .u32 0, .int .u32 0]) (cs := #[.int .u32 0, .int .u32 0]) rfl (by kernel_rfl) (by kernel_rfl) (by kernel_rfl)) ?_
   refine Rg.pg 40 true 77 (.binOp .eql 36 (.tmp 75) (.tmp 76) 36) (pv_eql_struct (b := (decide (n.ts = 0) && (decide (n.tn = 0) && true))) rfl rfl (by kernel_rfl) (by kernel_rfl) (by kernel_rfl) (by kernel_rfl)) ?_
   refine Rg.p 78 (.pick (.tmp 73) (.tmp 77) (.const (.bool false))) (pv_pick_t rfl rfl) ?_
   exact Rg.em 73 h110 (at_t h110) rfl rfl
  ·
   refine Rg.skips 45 (by kernel_rfl) ?_
   refine Rg.p 78 (.pick (.tmp 73) (.tmp 77) (.const (.bool false))) (pv_pick_f rfl rfl) ?_
   exact Rg.em 73 h110 (at_f h110) rfl rfl
  refine Rg.as 2 78 rfl ?_
  refine Rg.nx (fun _ _ h => h) [3,2,1] rfl ?_
  refine Ev.rt ?_
  refine At.via (Q := Q) hQ ?_
  refine At.ret1 rfl rfl rfl ?_
  exact fun w hw => ⟨(by unfold onlyS; rw [h10]; rfl), hw.base_below 1 rfl⟩
 ·
  have h137 := of_decide_eq_false h10
  refine Ev.sr 2 ?_
  refine Rg.p 80 (.binOp .eql 33 (.tmp 30) (.const (.int .u32 1)) 33) (pv_eql rfl rfl) ?_
  refine Rg.as 79 80 rfl ?_
  refine Rg.nx (fun _ _ h => h) [79,30,4,3,2,1] rfl ?_
  refine Ev.cd 79 rfl (fun h138 => ?_) (fun h138 => ?_)
  ·
   have h139 := of_decide_eq_true h138
   refine Ev.sr 13 ?_
   refine Rg.fa 81 44 1 11 21 rfl ?_
   refine Rg.ld 82 9 81 0 rfl rfl rfl ?_
   refine Rg.p 83 (.binOp .eql 9 (.tmp 82) (.const (.string ⟨#[]⟩)) 9) (pv_eql_str rfl rfl) ?_
   refine Rg.mv 84 83 rfl ?_
   refine Rg.ga 6 86 84 (((decide ((n.list.length : Int) = 0)) && (decide (n.parent = 0))) && (decide (n.next = 0))) rfl (fun h140 => ?_) (fun h140 => ?_) ?_
   ·
    have h141 := of_decide_eq_true h140
    refine Rg.pg 3 true 85 (.move (.tmp 4)) (pv_move rfl) ?_
    refine Rg.p 86 (.pick (.tmp 84) (.tmp 85) (.const (.bool false))) (pv_pick_t rfl rfl) ?_
    exact Rg.em 84 h140 (at_t h140) rfl rfl
   ·
    refine Rg.skips 5 (by kernel_rfl) ?_
    refine Rg.p 86 (.pick (.tmp 84) (.tmp 85) (.const (.bool false))) (pv_pick_f rfl rfl) ?_
    exact Rg.em 84 h140 (at_f h140) rfl rfl
   refine Rg.mv 87 86 rfl ?_
   refine Rg.ga 12 92 87 (decide ((n.data.length : Int) ≤ 65536)) rfl (fun h142 => ?_) (fun h142 => ?_) ?_
   ·
    have ⟨h143, h144⟩ := and_t h142
    have h145 := of_decide_eq_true h143
    have ⟨h146, h147⟩ := and_t h144
    have ⟨h148, h149⟩ := and_t h146
    have h150 := of_decide_eq_true h148
    have h151 := of_decide_eq_true h149
    have h152 := of_decide_eq_true h147
    refine Rg.pg 6 true 88 (.fieldAddr 44 (.tmp 1) 9) (pv_fieldAddr rfl (n := 12) (by kernel_rfl)) ?_
    refine Rg.pg 6 true 89 (.load 29 (.tmp 88)) (v := .slice a.dA n.data.length a.dCap) (pv_load_blk 0 rfl rfl (by kernel_rfl) rfl) ?_
    refine Rg.pg 6 true 90 (.call { callee := .builtin .len, args := #[.tmp 89], argTypes := #[29] }) (pv_len_slice rfl (by kernel_rfl)) ?_
    refine Rg.pg 6 true 91 (.binOp .leq 3 (.tmp 90) (.const (.int .i64 65536)) 3) (pv_leq rfl rfl) ?_
    refine Rg.p 92 (.pick (.tmp 87) (.tmp 91) (.const (.bool false))) (pv_pick_t rfl rfl) ?_
    exact Rg.em 87 h142 (at_t h142) rfl rfl
   ·
    refine Rg.skips 11 (by kernel_rfl) ?_
    refine Rg.p 92 (.pick (.tmp 87) (.tmp 91) (.const (.bool false))) (pv_pick_f rfl rfl) ?_
    exact Rg.em 87 h142 (at_f h142) rfl rfl
   refine Rg.as 2 92 rfl ?_
   refine Rg.nx (fun _ _ h => h) [3,2,1] rfl ?_
   refine Ev.rt ?_
   refine At.via (Q := Q) hQ ?_
   refine At.ret1 rfl rfl rfl ?_
   exact fun w hw => ⟨(by unfold onlyS; rw [h10, h138]; rfl), hw.base_below 1 rfl⟩
  ·
   have h153 := of_decide_eq_false h138
   refine Ev.sr 2 ?_
   refine Rg.p 94 (.binOp .eql 33 (.tmp 30) (.const (.int .u32 5)) 33) (pv_eql rfl rfl) ?_
   refine Rg.as 93 94 rfl ?_
   refine Rg.nx (fun _ _ h => h) [93,4,3,2,1] rfl ?_
   refine Ev.cd 93 rfl (fun h154 => ?_) (fun h154 => ?_)
   ·
    have h155 := of_decide_eq_true h154
    refine Ev.sr 11 ?_
    refine Rg.mv 95 3 rfl ?_
    refine Rg.mv 96 95 rfl ?_
    refine Rg.ga 4 98 96 (((decide ((n.list.length : Int) = 0)) && (decide (n.parent = 0))) && (decide (n.next = 0))) rfl (fun h156 => ?_) (fun h156 => ?_) ?_
    ·
     have ⟨h157, h158⟩ := and_t h156
     have h159 := of_decide_eq_true h157
     have h160 := of_decide_eq_true h158
     refine Rg.pg 1 true 97 (.move (.tmp 4)) (pv_move rfl) ?_
     refine Rg.p 98 (.pick (.tmp 96) (.tmp 97) (.const (.bool false))) (pv_pick_t rfl rfl) ?_
     exact Rg.em 96 h156 (at_t h156) rfl rfl
    ·
     refine Rg.skips 3 (by kernel_rfl) ?_
     refine Rg.p 98 (.pick (.tmp 96) (.tmp 97) (.const (.bool false))) (pv_pick_f rfl rfl) ?_
     exact Rg.em 96 h156 (at_f h156) rfl rfl
    refine Rg.mv 99 98 rfl ?_
    refine Rg.ga 10 104 99 (decide ((pathS n.target) = 0)) rfl (fun h161 => ?_) (fun h161 => ?_) ?_
    ·
     have ⟨h162, h163⟩ := and_t h161
     have ⟨h164, h165⟩ := and_t h162
     have h166 := of_decide_eq_true h164
     have h167 := of_decide_eq_true h165
     have ⟨h168, h169⟩ := and_t h163
     have ⟨h170, h171⟩ := and_t h168
     have h172 := of_decide_eq_true h170
     have h173 := of_decide_eq_true h171
     have h174 := of_decide_eq_true h169
     refine Rg.pg 4 true 100 (.fieldAddr 44 (.tmp 1) 11) (pv_fieldAddr rfl (n := 21) (by kernel_rfl)) ?_
     refine Rg.pg 4 true 101 (.load 9 (.tmp 100)) (v := .string n.target) (pv_load_blk 0 rfl rfl (by kernel_rfl) rfl) ?_
     refine rg_call (d := some 102) (f := 111) (xs := #[.tmp 101]) (ts := #[9]) (g := some (4, true)) (v := .int .u32 (pathS n.target)) (by kernel_rfl) (by kernel_rfl) (by kernel_rfl) rfl (fun w hw => Path_calls (hW.target)) ?_
     refine Rg.pg 4 true 103 (.binOp .eql 45 (.tmp 102) (.const (.int .u32 0)) 45) (pv_eql rfl rfl) ?_
     refine Rg.p 104 (.pick (.tmp 99) (.tmp 103) (.const (.bool false))) (pv_pick_t rfl rfl) ?_
     exact Rg.em 99 h161 (at_t h161) rfl rfl
    ·
     refine Rg.skips 9 (by kernel_rfl) ?_
     refine Rg.p 104 (.pick (.tmp 99) (.tmp 103) (.const (.bool false))) (pv_pick_f rfl rfl) ?_
     exact Rg.em 99 h161 (at_f h161) rfl rfl
    refine Rg.as 2 104 rfl ?_
    refine Rg.nx (fun _ _ h => h) [3,2,1] rfl ?_
    refine Ev.rt ?_
    refine At.via (Q := Q) hQ ?_
    refine At.ret1 rfl rfl rfl ?_
    exact fun w hw => ⟨(by unfold onlyS; rw [h10, h138, h154]; rfl), hw.base_below 1 rfl⟩
   ·
    have h175 := of_decide_eq_false h154
    refine Ev.sk ?_
    refine At.nx (fun _ _ h => h) [3,2,1] rfl ?_
    refine Ev.sr 12 ?_
    refine Rg.fa 105 44 1 0 0 rfl ?_
    refine Rg.ld 106 33 105 0 rfl rfl rfl ?_
    refine Rg.p 107 (.binOp .eql 33 (.tmp 106) (.const (.int .u32 2)) 33) (pv_eql rfl rfl) ?_
    refine Rg.mv 108 107 rfl ?_
    refine Rg.ga 6 110 108 ((decide ((n.data.length : Int) = 0)) && (decide ([n.verf.a0, n.verf.a1, n.verf.a2, n.verf.a3, n.verf.a4, n.verf.a5, n.verf.a6, n.verf.a7] = [0, 0, 0, 0, 0, 0, 0, 0]))) rfl (fun h176 => ?_) (fun h176 => ?_) ?_
    ·
     have h177 := of_decide_eq_true h176
     refine Rg.pg 3 true 109 (.move (.tmp 3)) (pv_move rfl) ?_
     refine Rg.p 110 (.pick (.tmp 108) (.tmp 109) (.const (.bool false))) (pv_pick_t rfl rfl) ?_
     exact Rg.em 108 h176 (at_t h176) rfl rfl
    ·
     refine Rg.skips 5 (by kernel_rfl) ?_
     refine Rg.p 110 (.pick (.tmp 108) (.tmp 109) (.const (.bool false))) (pv_pick_f rfl rfl) ?_
     exact Rg.em 108 h176 (at_f h176) rfl rfl
    refine Rg.mv 111 110 rfl ?_
    refine Rg.ga 11 115 111 (decide (n.target = ⟨#[]⟩)) rfl (fun h178 => ?_) (fun h178 => ?_) ?_
    ·
     have ⟨h179, h180⟩ := and_t h178
     have h181 := of_decide_eq_true h179
     have ⟨h182, h183⟩ := and_t h180
     have h184 := of_decide_eq_true h182
     have h185 := of_decide_eq_true h183
     refine Rg.pg 6 true 112 (.fieldAddr 44 (.tmp 1) 11) (pv_fieldAddr rfl (n := 21) (by kernel_rfl)) ?_
     refine Rg.pg 6 true 113 (.load 9 (.tmp 112)) (v := .string n.target) (pv_load_blk 0 rfl rfl (by kernel_rfl) rfl) ?_
     refine Rg.pg 6 true 114 (.binOp .eql 9 (.tmp 113) (.const (.string ⟨#[]⟩)) 9) (pv_eql_str rfl rfl) ?_
     refine Rg.p 115 (.pick (.tmp 111) (.tmp 114) (.const (.bool false))) (pv_pick_t rfl rfl) ?_
     exact Rg.em 111 h178 (at_t h178) rfl rfl
    ·
     refine Rg.skips 10 (by kernel_rfl) ?_
     refine Rg.p 115 (.pick (.tmp 111) (.tmp 114) (.const (.bool false))) (pv_pick_f rfl rfl) ?_
     exact Rg.em 111 h178 (at_f h178) rfl rfl
    refine Rg.as 2 115 rfl ?_
    refine Rg.nx (fun _ _ h => h) [2] rfl ?_
    refine Ev.rt ?_
    refine At.via (Q := Q) hQ ?_
    refine At.ret1 rfl rfl rfl ?_
    exact fun w hw => ⟨(by unfold onlyS; rw [h10, h138, h154]; rfl), hw.base_below 1 rfl⟩

set_option maxHeartbeats 8000000 in
theorem check1_calls {n : Node} {a : Loc} {w : World} (hW : NodeWf n) :
  Calls Try.prog 56 #[.agg (n.cells a)] w (Ret w (.bool (!onlyS n))) := by
 refine calls_ofQ (args := [_]) [base w (Low w)] Try.func56 (by kernel_rfl) (by kernel_rfl) (Heap.start w) ?_
 intro Q hQ
 refine Ev.sr 2 ?_
 refine Rg.bx 1 44 (.tmp 0) rfl fun b1 => ?_
 refine Rg.ac 2 (.bool false) ?_
 refine Rg.nx (fun _ _ h => h) [2,1] rfl ?_
 refine Ev.sr 4 ?_
 refine Rg.p 3 (.load 44 (.tmp 1)) (v := .agg (n.cells a)) (pv_load_blk_whole 0 rfl rfl (by kernel_rfl) (by kernel_rfl)) ?_
 refine Rg.cl (some 4) 57 #[.tmp 3] #[44] (v := .bool (onlyS n)) rfl (fun w hw => only_calls (hW)) ?_
 refine Rg.p 5 (.unOp .not 4 (.tmp 4)) (pv_not (b := onlyS n) rfl) ?_
 refine Rg.as 2 5 rfl ?_
 refine Rg.nx (fun _ _ h => h) [2] rfl ?_
 refine Ev.rt ?_
 refine At.via (Q := Q) hQ ?_
 refine At.ret1 rfl rfl rfl ?_
 exact fun w hw => ⟨rfl, hw.base_below 1 rfl⟩

noncomputable def anyBad (ns : List Node) : Bool := (List.range ns.length).any fun i => !onlyS (nd ns i)
theorem anyBad_t {ns : List Node} {i : Nat} (hi : i < ns.length) (h : (!onlyS (nd ns i)) = true) : anyBad ns = true := List.any_eq_true.2 ⟨i, List.mem_range.2 hi, h⟩
theorem anyBad_f {ns : List Node} (h : ∀ i, i < ns.length → (!onlyS (nd ns i)) = false) : anyBad ns = false := by
  rw [anyBad, List.any_eq_false]
  intro i hi
  rw [h i (List.mem_range.1 hi)]; simp

set_option maxHeartbeats 8000000 in
theorem indexFuncN_calls {p : Option Addr} {ns : List Node} {al : List Loc} {cap : Nat} {w : World} (hT : NodesAt (Low w) w p ns al) (hW : NodesWf ns) :
  Calls Try.prog 110 #[.slice p ns.length cap, .func (.func 56) #[] #[]] w (RetN w (fun v : Int => (0 ≤ v ∧ anyBad ns = true) ∨ (v = -1 ∧ anyBad ns = false)) (fun v => .int .i64 v) (fun _ => [])) := by
 refine calls_ofQ (args := [_, _]) [base w (Low w)] Try.func110 (by kernel_rfl) (by kernel_rfl) (Heap.start w) ?_
 intro Q hQ
 have hlen := hW.len
 refine Ev.sr 1 ?_
 refine Rg.ac 4 (.int .i64 0) ?_
 refine Rg.nx (fun _ _ h => h) [4,1,0] rfl ?_
 refine Ev.sq ?_
 refine Ev.sr 3 ?_
 refine Rg.mv 6 0 rfl ?_
 refine Rg.p 7 (.call { callee := .builtin .len, args := #[.tmp 6], argTypes := #[22] }) (pv_len_slice rfl (by kernel_rfl)) ?_
 refine Rg.mc 8 (.int .i64 0) ?_
 refine Rg.nx (fun _ _ h => h) [8,7,4,1,0] rfl ?_
 refine Ev.bk 0 ?_
 refine ev_loop (T := Nat) (fun k => [(0, .slice p ns.length cap), (1, .func (.func 56) #[] #[]), (4, .int .i64 0), (7, .int .i64 (ns.length : Int)), (8, .int .i64 (k : Int))]) (fun k => [base w (Low w)]) (fun k => k ≤ ns.length ∧ ∀ i_, i_ < k → (!onlyS (nd ns i_)) = false) (fun k => ns.length - k) 0 [0] (by kernel_rfl) ⟨Nat.zero_le _, fun i_ h_ => absurd h_ (Nat.not_lt_zero _)⟩ (.cons (rfl) (.cons (rfl) (.cons (rfl) (.cons (rfl) (.cons (rfl) (.nil _)))))) rfl (by decide) ?_
 rintro k ⟨(hk : k ≤ ns.length), (hno : ∀ i_, i_ < k → (!onlyS (nd ns i_)) = false)⟩
 show Ev _ _ [(0, .slice p ns.length cap), (1, .func (.func 56) #[] #[]), (4, .int .i64 0), (7, .int .i64 (ns.length : Int)), (8, .int .i64 (k : Int))] [base w (Low w)] _
 refine Ev.sr 1 ?_
 refine Rg.p 9 (.binOp .lss 3 (.tmp 8) (.tmp 7) 3) (pv_lss rfl rfl) ?_
 refine Rg.nx (fun _ _ h => h) [9,8,7,4,1,0] rfl ?_
 refine Ev.sq ?_
 refine Ev.cd 9 rfl (fun h1 => ?_) (fun h1 => ?_)
 ·
  have h2 := of_decide_eq_true h1
  refine Ev.sk ?_
  refine At.nx (fun _ _ h => h) [9,8,7,4,1,0] rfl ?_
  refine Ev.sq ?_
  refine Ev.bk 1 ?_
  refine Ev.sr 2 ?_
  refine Rg.mv 10 8 rfl ?_
  refine Rg.as 5 10 rfl ?_
  refine Rg.nx (fun _ _ h => h) [10,9,8,7,5,4,1,0] rfl ?_
  refine Ev.sr 6 ?_
  refine Rg.mv 11 1 rfl ?_
  refine Rg.mv 12 0 rfl ?_
  refine Rg.mv 13 5 rfl ?_
  have ⟨q1, o2, hp3⟩ := hT.rows.adr (by omega)
  refine Rg.p 14 (.indexAddr 22 (.tmp 12) (.tmp 13)) (v := .pointer (some ⟨q1, o2 + ((k : Int)).toNat * 25, none⟩)) (pv_indexAddr' rfl hp3 rfl (e := 44) (sz := 25) (by kernel_rfl) (by omega) (by omega)) ?_
  refine Rg.p 15 (.load 44 (.tmp 14)) (v := .agg ((nd ns k).cells (lc al k))) (pv_load_node (i := ((k : Int)).toNat) (ns := ns) rfl hp3 (by omega) (by kernel_rfl) (by kernel_rfl) (fun w hw => ((hT).keep (hw.at_ 0 rfl) (fun k hk => hw.lt 0 rfl hk)))) ?_
  refine rg_callD (d := some 16) (f := 56) (fo := .tmp 11) (caps := #[]) (xs := #[.tmp 15]) (ts := #[44]) (g := none) (v := .bool (!(onlyS (nd ns k)))) (by kernel_rfl) (by kernel_rfl) rfl (by kernel_rfl) rfl (fun w hw => check1_calls (hW.node _)) ?_
  refine Rg.nx (fun _ _ h => h) [16,15,14,13,12,11,10,9,8,7,5,4,1,0] rfl ?_
  refine Ev.cd 16 rfl (fun h3 => ?_) (fun h3 => ?_)
  ·
   have h4 := not_t h3
   refine Ev.sr 2 ?_
   refine Rg.mv 17 5 rfl ?_
   refine Rg.as 4 17 rfl ?_
   refine Rg.nx (fun _ _ h => h) [17,16,15,14,13,12,11,10,9,8,7,5,4,1,0] rfl ?_
   refine Ev.rt ?_
   refine At.via (Q := Q) hQ ?_
   refine At.ret1 rfl rfl rfl ?_
   exact fun w hw => ⟨(k : Int), .inl ⟨(by omega), anyBad_t (by omega) h3⟩, rfl, hw.pick [0] (by decide)⟩
  ·
   have h5 := not_f h3
   refine Ev.sk ?_
   refine At.nx (fun _ _ h => h) [16,15,14,13,12,11,10,9,8,7,5,4,1,0] rfl ?_
   refine Ev.rg 2 ?_
   refine Rg.p 18 (.binOp .add 3 (.tmp 8) (.const (.int .i64 1)) 3) (pv_addb rfl rfl (in_i64 (by omega) (by omega))) ?_
   refine Rg.mv 8 18 rfl ?_
   refine Rg.fin rfl ?_
   refine At.round (fun _ _ h => h) (k + 1) [0] ⟨(by omega), (fun i_ h_ => by rcases Nat.lt_succ_iff_lt_or_eq.1 h_ with h1_ | h1_; exact hno i_ h1_; subst h1_; exact h3)⟩ (by show ns.length - (k + 1) < ns.length - k; omega) (.cons (rfl) (.cons (rfl) (.cons (rfl) (.cons (rfl) (.cons (rfl) (.nil _)))))) rfl (by decide)
 ·
  have h6 := of_decide_eq_false h1
  refine Ev.xt 0 ?_
  refine At.nx (fun _ _ h => h) [4] rfl ?_
  refine Ev.sr 1 ?_
  refine Rg.ac 4 (.int .i64 (-1)) ?_
  refine Rg.nx (fun _ _ h => h) [4] rfl ?_
  refine Ev.rt ?_
  refine At.via (Q := Q) hQ ?_
  refine At.ret1 rfl rfl rfl ?_
  exact fun w hw => ⟨-1, .inr ⟨rfl, anyBad_f (fun i hi => hno i (by omega))⟩, rfl, hw.pick [0] (by decide)⟩

set_option maxHeartbeats 8000000 in
theorem containsFunc_calls {p : Option Addr} {ns : List Node} {al : List Loc} {cap : Nat} {w : World} (hT : NodesAt (Low w) w p ns al) (hW : NodesWf ns) :
  Calls Try.prog 55 #[.slice p ns.length cap, .func (.func 56) #[] #[]] w (Ret w (.bool (anyBad ns))) := by
 refine calls_ofQ (args := [_, _]) [base w (Low w)] Try.func55 (by kernel_rfl) (by kernel_rfl) (Heap.start w) ?_
 intro Q hQ
 refine Ev.sr 1 ?_
 refine Rg.ac 4 (.bool false) ?_
 refine Rg.nx (fun _ _ h => h) [4,1,0] rfl ?_
 refine Ev.sr 5 ?_
 refine Rg.mv 5 0 rfl ?_
 refine Rg.mv 6 1 rfl ?_
 refine Rg.cn (T := Int) (some 7) 110 #[.tmp 5, .tmp 6] #[22, 122] (v := fun v1 => .int .i64 v1) (L := fun v1 => []) rfl (fun w hw => indexFuncN_calls ((hT).keep (hw.at_ 0 rfl) (fun k hk => hw.lt 0 rfl hk)) hW) ?_
 rintro v1 hv_v1
 dsimp only [putE, List.append, HAppend.hAppend, Append.append]
 refine Rg.p 8 (.binOp .geq 3 (.tmp 7) (.const (.int .i64 0)) 3) (pv_geq rfl rfl) ?_
 refine Rg.as 4 8 rfl ?_
 refine Rg.nx (fun _ _ h => h) [4] rfl ?_
 refine Ev.rt ?_
 refine At.via (Q := Q) hQ ?_
 refine At.ret1 rfl rfl rfl ?_
 exact fun w hw => ⟨(by rcases hv_v1 with ⟨h1_, h2_⟩ | ⟨h1_, h2_⟩ <;> rw [h2_] <;> simp [h1_]), hw.base_below 0 rfl⟩

end Go.Proofs.Ytfhhggcdmgjbcaa.Sx
