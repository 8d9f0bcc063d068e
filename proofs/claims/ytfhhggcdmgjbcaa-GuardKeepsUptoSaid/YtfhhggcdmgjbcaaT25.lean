/-
  A part of the walk of the seat: laws of a small proof system, and contracts of functions, each proved. Conditions: as each theorem says.
-/
import Derived.Test.YtfhhggcdmgjbcaaProg
import Derived.Test.YtfhhggcdmgjbcaaT24
namespace Go.Proofs.Ytfhhggcdmgjbcaa.Sx
open Go Go.RowKit Go.Proofs

set_option maxHeartbeats 8000000 in
theorem times_calls {n : Int} {s : SetD} {nows nown : Int} {ow : Bool} {p : Option Addr} {ns : List Node}  {cap : Nat} {gen : Int} {w : World}  {pg : Option Addr} {c : CredD} {cg : Nat} (hG : NumsAt (Low w) w pg c.groups) (hgl : c.groups.length ≤ 16777216) :
  Calls Try.prog 117 #[.agg #[.slice p ns.length cap, .int .u32 gen, .int .i64 n, .int .u32 c.user, .int .u32 c.group, .slice pg c.groups.length cg, .bool s.hm, .int .u32 s.mode, .bool s.hu, .int .u32 s.user, .bool s.hg, .int .u32 s.group, .bool s.hs, .int .u64 s.size, .int .u32 s.rh, .int .u32 s.rs, .int .u32 s.rn, .int .u32 s.wh, .int .u32 s.ws, .int .u32 s.wn, .int .u32 nows, .int .u32 nown, .bool ow]] w (Ret w (.agg #[.int .u32 s.rh, .int .u32 s.rs, .int .u32 s.rn, .int .u32 s.wh, .int .u32 s.ws, .int .u32 s.wn])) := by
 refine calls_ofQ (args := [_]) [base w (Low w)] Try.func117 (by kernel_rfl) (by kernel_rfl) (Heap.start w) ?_
 intro Q hQ
 refine Ev.sr 2 ?_
 refine Rg.bx 1 143 (.tmp 0) rfl fun b1 => ?_
 refine Rg.al 2 201 (.agg #[.int .u32 0, .int .u32 0, .int .u32 0, .int .u32 0, .int .u32 0, .int .u32 0]) fun b2 => ?_
 refine Rg.nx (fun _ _ h => h) [2,1] rfl ?_
 refine Ev.sr 16 ?_
 refine Rg.fa 3 143 1 3 6 rfl ?_
 refine Rg.fa 4 59 3 8 8 rfl ?_
 refine Rg.ld 5 57 4 1 rfl rfl rfl ?_
 refine Rg.fa 6 143 1 3 6 rfl ?_
 refine Rg.fa 7 59 6 9 9 rfl ?_
 refine Rg.p 8 (.load 36 (.tmp 7)) (v := .agg #[.int .u32 s.rs, .int .u32 s.rn]) (pv_load_blk_agg 1 rfl rfl (vs := #[.int .u32 s.rs, .int .u32 s.rn]) (by kernel_rfl) (by kernel_rfl) (agg_rfl (by kernel_rfl))) ?_
 refine Rg.p 9 (.build 200 #[(0, .tmp 5), (1, .tmp 8)]) (v := .agg #[.int .u32 s.rh, .int .u32 s.rs, .int .u32 s.rn]) (pv_build (parts := [(0, .tmp 5), (1, .tmp 8)]) (vs := [.int .u32 s.rh, .agg #[.int .u32 s.rs, .int .u32 s.rn]]) (fs := [(0, 1), (1, 2)]) (zv := .agg #[.int .u32 0, .int .u32 0, .int .u32 0]) (cs := #[.int .u32 s.rh, .int .u32 s.rs, .int .u32 s.rn]) rfl (by kernel_rfl) (by kernel_rfl) (by kernel_rfl)) ?_
 refine Rg.fa 10 143 1 3 6 rfl ?_
 refine Rg.fa 11 59 10 10 11 rfl ?_
 refine Rg.ld 12 57 11 1 rfl rfl rfl ?_
 refine Rg.fa 13 143 1 3 6 rfl ?_
 refine Rg.fa 14 59 13 11 12 rfl ?_
 refine Rg.p 15 (.load 36 (.tmp 14)) (v := .agg #[.int .u32 s.ws, .int .u32 s.wn]) (pv_load_blk_agg 1 rfl rfl (vs := #[.int .u32 s.ws, .int .u32 s.wn]) (by kernel_rfl) (by kernel_rfl) (agg_rfl (by kernel_rfl))) ?_
 refine Rg.p 16 (.build 200 #[(0, .tmp 12), (1, .tmp 15)]) (v := .agg #[.int .u32 s.wh, .int .u32 s.ws, .int .u32 s.wn]) (pv_build (parts := [(0, .tmp 12), (1, .tmp 15)]) (vs := [.int .u32 s.wh, .agg #[.int .u32 s.ws, .int .u32 s.wn]]) (fs := [(0, 1), (1, 2)]) (zv := .agg #[.int .u32 0, .int .u32 0, .int .u32 0]) (cs := #[.int .u32 s.wh, .int .u32 s.ws, .int .u32 s.wn]) rfl (by kernel_rfl) (by kernel_rfl) (by kernel_rfl)) ?_
 refine Rg.p 17 (.build 201 #[(0, .tmp 9), (1, .tmp 16)]) (v := .agg #[.int .u32 s.rh, .int .u32 s.rs, .int .u32 s.rn, .int .u32 s.wh, .int .u32 s.ws, .int .u32 s.wn]) (pv_buildArr (e := 200) (sz := 3) (n := 2) (parts := [(0, .tmp 9), (1, .tmp 16)]) (vs := [.agg #[.int .u32 s.rh, .int .u32 s.rs, .int .u32 s.rn], .agg #[.int .u32 s.wh, .int .u32 s.ws, .int .u32 s.wn]]) (zv := .agg #[.int .u32 0, .int .u32 0, .int .u32 0, .int .u32 0, .int .u32 0, .int .u32 0]) (cs := #[.int .u32 s.rh, .int .u32 s.rs, .int .u32 s.rn, .int .u32 s.wh, .int .u32 s.ws, .int .u32 s.wn]) rfl (by kernel_rfl) (by kernel_rfl) (by kernel_rfl) (by kernel_rfl)) ?_
 refine Rg.st 201 2 (.tmp 17) 0 #[.int .u32 s.rh, .int .u32 s.rs, .int .u32 s.rn, .int .u32 s.wh, .int .u32 s.ws, .int .u32 s.wn] rfl rfl rfl ?_
 refine Rg.nx (fun _ _ h => h) [2] rfl ?_
 refine Ev.rt ?_
 refine At.via (Q := Q) hQ ?_
 refine At.retCell rfl rfl (reads_cellA 0 rfl rfl (by kernel_rfl) (by kernel_rfl)) ?_
 exact fun w hw => ⟨rfl, hw.base_below 2 rfl⟩

set_option maxHeartbeats 8000000 in
theorem writes_calls {n : Int} {s : SetD} {nows nown : Int} {ow : Bool} {p : Option Addr} {ns : List Node} {al : List Loc} {cap : Nat} {gen : Int} {w : World} (hT : NodesAt (Low w) w p ns al) (hW : NodesWf ns) {pg : Option Addr} {c : CredD} {cg : Nat} (hG : NumsAt (Low w) w pg c.groups) (hgl : c.groups.length ≤ 16777216) :
  Calls Try.prog 118 #[.agg #[.slice p ns.length cap, .int .u32 gen, .int .i64 n, .int .u32 c.user, .int .u32 c.group, .slice pg c.groups.length cg, .bool s.hm, .int .u32 s.mode, .bool s.hu, .int .u32 s.user, .bool s.hg, .int .u32 s.group, .bool s.hs, .int .u64 s.size, .int .u32 s.rh, .int .u32 s.rs, .int .u32 s.rn, .int .u32 s.wh, .int .u32 s.ws, .int .u32 s.wn, .int .u32 nows, .int .u32 nown, .bool ow]] w (Ret w (.bool (ow || mayS ns n c 2))) := by
 refine calls_ofQ (args := [_]) [base w (Low w)] Try.func118 (by kernel_rfl) (by kernel_rfl) (Heap.start w) ?_
 intro Q hQ
 refine Ev.sr 2 ?_
 refine Rg.bx 1 143 (.tmp 0) rfl fun b1 => ?_
 refine Rg.ac 2 (.bool false) ?_
 refine Rg.nx (fun _ _ h => h) [2,1] rfl ?_
 refine Ev.sr 12 ?_
 refine Rg.fa 3 143 1 5 22 rfl ?_
 refine Rg.ld 4 4 3 0 rfl rfl rfl ?_
 refine Rg.mv 5 4 rfl ?_
 refine Rg.go 11 13 5 (mayS ns n c 2) rfl (fun h1 => ?_) (fun h1 => ?_) ?_
 ·
  refine Rg.skips 10 (by kernel_rfl) ?_
  refine Rg.p 13 (.pick (.tmp 5) (.const (.bool true)) (.tmp 12)) (pv_pick_t rfl rfl) ?_
  exact Rg.em 5 h1 (ot_t h1) rfl rfl
 ·
  refine Rg.pg 2 false 6 (.fieldAddr 143 (.tmp 1) 0) (pv_fieldAddr rfl (n := 0) (by kernel_rfl)) ?_
  refine Rg.pg 2 false 7 (.load 25 (.tmp 6)) (v := .agg #[.slice p ns.length cap, .int .u32 gen]) (pv_load_blk_agg 0 rfl rfl (vs := #[.slice p ns.length cap, .int .u32 gen]) (by kernel_rfl) (by kernel_rfl) (agg_rfl (by kernel_rfl))) ?_
  refine Rg.pg 2 false 8 (.fieldAddr 143 (.tmp 1) 1) (pv_fieldAddr rfl (n := 2) (by kernel_rfl)) ?_
  refine Rg.pg 2 false 9 (.load 3 (.tmp 8)) (v := .int .i64 n) (pv_load_blk 0 rfl rfl (by kernel_rfl) rfl) ?_
  refine Rg.pg 2 false 10 (.fieldAddr 143 (.tmp 1) 2) (pv_fieldAddr rfl (n := 3) (by kernel_rfl)) ?_
  refine Rg.pg 2 false 11 (.load 56 (.tmp 10)) (v := .agg #[.int .u32 c.user, .int .u32 c.group, .slice pg c.groups.length cg]) (pv_load_blk_agg 0 rfl rfl (vs := #[.int .u32 c.user, .int .u32 c.group, .slice pg c.groups.length cg]) (by kernel_rfl) (by kernel_rfl) (agg_rfl (by kernel_rfl))) ?_
  refine rg_call (d := some 12) (f := 39) (xs := #[.tmp 7, .tmp 9, .tmp 11, .const (.int .u32 2)]) (ts := #[25, 3, 56, 23]) (g := some (2, false)) (v := .bool (mayS ns n c 2)) (by kernel_rfl) (by kernel_rfl) (by kernel_rfl) rfl (fun w hw => mayS_calls ((hT).keep (hw.at_ 1 rfl) (fun k hk => hw.lt 1 rfl hk)) hW (RowsAt.keep hG (hw.at_ 1 rfl) (fun k hk => hw.lt 1 rfl hk)) hgl) ?_
  refine Rg.p 13 (.pick (.tmp 5) (.const (.bool true)) (.tmp 12)) (pv_pick_f rfl rfl) ?_
  exact Rg.em 5 h1 (ot_f h1) rfl rfl
 refine Rg.as 2 13 rfl ?_
 refine Rg.nx (fun _ _ h => h) [2] rfl ?_
 refine Ev.rt ?_
 refine At.via (Q := Q) hQ ?_
 refine At.ret1 rfl rfl rfl ?_
 exact fun w hw => ⟨rfl, hw.base_below 1 rfl⟩

noncomputable def formS (ns : List Node) (n : Int) (c : CredD) (s : SetD) (nows nown : Int) (ow : Bool) : Int := cond ((((((s.hm && (decide (4095 < s.mode))) || (!(decide (nown < 1000000000)))) || (decide (2 < s.rh))) || ((decide (s.rh = 2)) && (!(decide (s.rn < 1000000000))))) || (decide (2 < s.wh))) || ((decide (s.wh = 2)) && (!(decide (s.wn < 1000000000)))))
  (22)
  (0)

set_option maxHeartbeats 8000000 in
theorem formS_calls {n : Int} {s : SetD} {nows nown : Int} {ow : Bool} {p : Option Addr} {ns : List Node} {al : List Loc} {cap : Nat} {gen : Int} {w : World} (hT : NodesAt (Low w) w p ns al) (hW : NodesWf ns) {pg : Option Addr} {c : CredD} {cg : Nat} (hG : NumsAt (Low w) w pg c.groups) (hgl : c.groups.length ≤ 16777216) :
  Calls Try.prog 66 #[.agg #[.slice p ns.length cap, .int .u32 gen, .int .i64 n, .int .u32 c.user, .int .u32 c.group, .slice pg c.groups.length cg, .bool s.hm, .int .u32 s.mode, .bool s.hu, .int .u32 s.user, .bool s.hg, .int .u32 s.group, .bool s.hs, .int .u64 s.size, .int .u32 s.rh, .int .u32 s.rs, .int .u32 s.rn, .int .u32 s.wh, .int .u32 s.ws, .int .u32 s.wn, .int .u32 nows, .int .u32 nown, .bool ow]] w (Ret w (.int .u32 (formS ns n c s nows nown ow))) := by
 refine calls_ofQ (args := [_]) [base w (Low w)] Try.func66 (by kernel_rfl) (by kernel_rfl) (Heap.start w) ?_
 intro Q hQ
 refine Ev.sr 2 ?_
 refine Rg.bx 1 143 (.tmp 0) rfl fun b1 => ?_
 refine Rg.ac 2 (.int .u32 0) ?_
 refine Rg.nx (fun _ _ h => h) [2,1] rfl ?_
 refine Ev.sr 16 ?_
 refine Rg.fa 6 143 1 3 6 rfl ?_
 refine Rg.fa 7 59 6 0 0 rfl ?_
 refine Rg.ld 8 4 7 0 rfl rfl rfl ?_
 refine Rg.mv 9 8 rfl ?_
 refine Rg.ga 9 14 9 (decide (4095 < s.mode)) rfl (fun h1 => ?_) (fun h1 => ?_) ?_
 ·
  refine Rg.pg 3 true 10 (.fieldAddr 143 (.tmp 1) 3) (pv_fieldAddr rfl (n := 6) (by kernel_rfl)) ?_
  refine Rg.pg 3 true 11 (.fieldAddr 59 (.tmp 10) 1) (pv_fieldAddr rfl (n := 1) (by kernel_rfl)) ?_
  refine Rg.pg 3 true 12 (.load 23 (.tmp 11)) (v := .int .u32 s.mode) (pv_load_blk 0 rfl rfl (by kernel_rfl) rfl) ?_
  refine Rg.pg 3 true 13 (.binOp .gtr 23 (.tmp 12) (.const (.int .u32 4095)) 23) (pv_gtr rfl rfl) ?_
  refine Rg.p 14 (.pick (.tmp 9) (.tmp 13) (.const (.bool false))) (pv_pick_t rfl rfl) ?_
  exact Rg.em 9 h1 (at_t h1) rfl rfl
 ·
  refine Rg.skips 8 (by kernel_rfl) ?_
  refine Rg.p 14 (.pick (.tmp 9) (.tmp 13) (.const (.bool false))) (pv_pick_f rfl rfl) ?_
  exact Rg.em 9 h1 (at_f h1) rfl rfl
 refine Rg.mv 15 14 rfl ?_
 refine Rg.go 15 20 15 (!(decide (nown < 1000000000))) rfl (fun h2 => ?_) (fun h2 => ?_) ?_
 ·
  refine Rg.skips 14 (by kernel_rfl) ?_
  refine Rg.p 20 (.pick (.tmp 15) (.const (.bool true)) (.tmp 19)) (pv_pick_t rfl rfl) ?_
  exact Rg.em 15 h2 (ot_t h2) rfl rfl
 ·
  refine Rg.pg 9 false 16 (.fieldAddr 143 (.tmp 1) 4) (pv_fieldAddr rfl (n := 20) (by kernel_rfl)) ?_
  refine Rg.pg 9 false 17 (.load 36 (.tmp 16)) (v := .agg #[.int .u32 nows, .int .u32 nown]) (pv_load_blk_agg 0 rfl rfl (vs := #[.int .u32 nows, .int .u32 nown]) (by kernel_rfl) (by kernel_rfl) (agg_rfl (by kernel_rfl))) ?_
  refine rg_call (d := some 18) (f := 59) (xs := #[.tmp 17]) (ts := #[36]) (g := some (9, false)) (v := .bool (decide (nown < 1000000000))) (by kernel_rfl) (by kernel_rfl) (by kernel_rfl) rfl (fun w hw => timesCheck_calls) ?_
  refine Rg.pg 9 false 19 (.unOp .not 4 (.tmp 18)) (pv_not (b := decide (nown < 1000000000)) rfl) ?_
  refine Rg.p 20 (.pick (.tmp 15) (.const (.bool true)) (.tmp 19)) (pv_pick_f rfl rfl) ?_
  exact Rg.em 15 h2 (ot_f h2) rfl rfl
 refine Rg.as 3 20 rfl ?_
 refine Rg.nx (fun _ _ h => h) [3,2,1] rfl ?_
 refine Ev.sq ?_
 refine Ev.sr 3 ?_
 refine Rg.p 21 (.load 143 (.tmp 1)) (v := .agg #[.slice p ns.length cap, .int .u32 gen, .int .i64 n, .int .u32 c.user, .int .u32 c.group, .slice pg c.groups.length cg, .bool s.hm, .int .u32 s.mode, .bool s.hu, .int .u32 s.user, .bool s.hg, .int .u32 s.group, .bool s.hs, .int .u64 s.size, .int .u32 s.rh, .int .u32 s.rs, .int .u32 s.rn, .int .u32 s.wh, .int .u32 s.ws, .int .u32 s.wn, .int .u32 nows, .int .u32 nown, .bool ow]) (pv_load_blk_whole 0 rfl rfl (by kernel_rfl) (by kernel_rfl)) ?_
 refine Rg.cl (some 22) 117 #[.tmp 21] #[143] (v := .agg #[.int .u32 s.rh, .int .u32 s.rs, .int .u32 s.rn, .int .u32 s.wh, .int .u32 s.ws, .int .u32 s.wn]) rfl (fun w hw => times_calls (RowsAt.keep hG (hw.at_ 1 rfl) (fun k hk => hw.lt 1 rfl hk)) hgl) ?_
 refine Rg.mc 23 (.int .i64 0) ?_
 refine Rg.nx (fun _ _ h => h) [23,22,3,2] rfl ?_
 refine Ev.bk 0 ?_
 refine Ev.unroll 2 ?_
 refine Ev.sr 1 ?_
 refine Rg.p 24 (.binOp .lss 3 (.tmp 23) (.const (.int .i64 2)) 3) (pv_lss rfl rfl) ?_
 refine Rg.know 24 (b := decide (0 < 2)) (c := true) rfl (by decide) ?_
 refine Rg.nx (fun _ _ h => h) [24,23,22,3,2] rfl ?_
 refine Ev.sq ?_
 refine ev_cond_t (t := 24) (by kernel_rfl) rfl ?_
 refine Ev.sk ?_
 refine At.nx (fun _ _ h => h) [24,23,22,3,2] rfl ?_
 refine Ev.sq ?_
 refine Ev.bk 1 ?_
 refine Ev.sr 3 ?_
 refine Rg.p 25 (.index 201 (.tmp 22) (.tmp 23)) (v := .agg #[.int .u32 s.rh, .int .u32 s.rs, .int .u32 s.rn]) (pv_index_agg (e := 200) (sz := 3) (n := 2) (cs' := #[.int .u32 s.rh, .int .u32 s.rs, .int .u32 s.rn]) rfl rfl (by kernel_rfl) (by kernel_rfl) (by kernel_rfl) (by decide) (by decide) (by kernel_rfl)) ?_
 refine Rg.al 5 200 (.agg #[.int .u32 0, .int .u32 0, .int .u32 0]) fun b2 => ?_
 refine Rg.st 200 5 (.tmp 25) 0 #[.int .u32 s.rh, .int .u32 s.rs, .int .u32 s.rn] rfl rfl rfl ?_
 refine Rg.nx (fun _ _ h => h) [25,24,23,22,5,3,2] rfl ?_
 refine Ev.rg 18 ?_
 refine Rg.mv 26 3 rfl ?_
 refine Rg.mv 27 26 rfl ?_
 refine Rg.go 6 31 27 (decide (2 < s.rh)) rfl (fun h3 => ?_) (fun h3 => ?_) ?_
 ·
  refine Rg.skips 5 (by kernel_rfl) ?_
  refine Rg.p 31 (.pick (.tmp 27) (.const (.bool true)) (.tmp 30)) (pv_pick_t rfl rfl) ?_
  exact Rg.em 27 h3 (ot_t h3) rfl rfl
 ·
  have ⟨h4, h5⟩ := or_f h3
  have h6 := of_decide_eq_true (not_f h5)
  refine Rg.pg 1 false 28 (.fieldAddr 200 (.tmp 5) 0) (pv_fieldAddr rfl (n := 0) (by kernel_rfl)) ?_
  refine Rg.pg 1 false 29 (.load 57 (.tmp 28)) (v := .int .u32 s.rh) (pv_load_blk 0 rfl rfl (by kernel_rfl) rfl) ?_
  refine Rg.pg 1 false 30 (.binOp .gtr 57 (.tmp 29) (.const (.int .u32 2)) 57) (pv_gtr rfl rfl) ?_
  refine Rg.p 31 (.pick (.tmp 27) (.const (.bool true)) (.tmp 30)) (pv_pick_f rfl rfl) ?_
  exact Rg.em 27 h3 (ot_f h3) rfl rfl
 refine Rg.mv 32 31 rfl ?_
 refine Rg.go 17 42 32 ((decide (s.rh = 2)) && (!(decide (s.rn < 1000000000)))) rfl (fun h7 => ?_) (fun h7 => ?_) ?_
 ·
  refine Rg.skips 16 (by kernel_rfl) ?_
  refine Rg.p 42 (.pick (.tmp 32) (.const (.bool true)) (.tmp 41)) (pv_pick_t rfl rfl) ?_
  exact Rg.em 32 h7 (ot_t h7) rfl rfl
 ·
  have ⟨h8, h9⟩ := or_f h7
  have ⟨h10, h11⟩ := or_f h8
  have h12 := of_decide_eq_true (not_f h11)
  have h13 := of_decide_eq_false h9
  refine Rg.pg 6 false 33 (.fieldAddr 200 (.tmp 5) 0) (pv_fieldAddr rfl (n := 0) (by kernel_rfl)) ?_
  refine Rg.pg 6 false 34 (.load 57 (.tmp 33)) (v := .int .u32 s.rh) (pv_load_blk 0 rfl rfl (by kernel_rfl) rfl) ?_
  refine Rg.pg 6 false 35 (.binOp .eql 57 (.tmp 34) (.const (.int .u32 2)) 57) (pv_eql rfl rfl) ?_
  refine Rg.pg 6 false 36 (.move (.tmp 35)) (pv_move rfl) ?_
  refine Rg.ga 16 41 36 (!(decide (s.rn < 1000000000))) rfl (fun h14 => ?_) (fun h14 => ?_) ?_
  ·
   have h15 := of_decide_eq_true h14
   refine Rg.pg 10 true 37 (.fieldAddr 200 (.tmp 5) 1) (pv_fieldAddr rfl (n := 1) (by kernel_rfl)) ?_
   refine Rg.pg 10 true 38 (.load 36 (.tmp 37)) (v := .agg #[.int .u32 s.rs, .int .u32 s.rn]) (pv_load_blk_agg 0 rfl rfl (vs := #[.int .u32 s.rs, .int .u32 s.rn]) (by kernel_rfl) (by kernel_rfl) (agg_rfl (by kernel_rfl))) ?_
   refine rg_call (d := some 39) (f := 59) (xs := #[.tmp 38]) (ts := #[36]) (g := some (10, true)) (v := .bool (decide (s.rn < 1000000000))) (by kernel_rfl) (by kernel_rfl) (by kernel_rfl) rfl (fun w hw => timesCheck_calls) ?_
   refine Rg.pg 10 true 40 (.unOp .not 4 (.tmp 39)) (pv_not (b := decide (s.rn < 1000000000)) rfl) ?_
   refine Rg.pg 6 false 41 (.pick (.tmp 36) (.tmp 40) (.const (.bool false))) (pv_pick_t rfl rfl) ?_
   exact Rg.em 36 h14 (at_t h14) rfl rfl
  ·
   refine Rg.skips 15 (by kernel_rfl) ?_
   refine Rg.pg 6 false 41 (.pick (.tmp 36) (.tmp 40) (.const (.bool false))) (pv_pick_f rfl rfl) ?_
   exact Rg.em 36 h14 (at_f h14) rfl rfl
  refine Rg.p 42 (.pick (.tmp 32) (.const (.bool true)) (.tmp 41)) (pv_pick_f rfl rfl) ?_
  exact Rg.em 32 h7 (ot_f h7) rfl rfl
 refine Rg.as 3 42 rfl ?_
 refine Rg.nx (fun _ _ h => h) [42,32,31,27,26,25,24,23,22,5,3,2] rfl ?_
 refine Ev.rg 2 ?_
 refine Rg.p 43 (.binOp .add 3 (.tmp 23) (.const (.int .i64 1)) 3) (v := .int .i64 1) (pv_addL (1) rfl rfl (by decide) (by kernel_rfl)) ?_
 refine Rg.mv 23 43 rfl ?_
 refine Rg.fin rfl ?_
 refine At.again 1 (fun _ _ h => h) [23,22,3,2] rfl ?_
 refine Ev.sr 1 ?_
 refine Rg.p 24 (.binOp .lss 3 (.tmp 23) (.const (.int .i64 2)) 3) (pv_lss rfl rfl) ?_
 refine Rg.know 24 (b := decide (1 < 2)) (c := true) rfl (by decide) ?_
 refine Rg.nx (fun _ _ h => h) [24,23,22,3,2] rfl ?_
 refine Ev.sq ?_
 refine ev_cond_t (t := 24) (by kernel_rfl) rfl ?_
 refine Ev.sk ?_
 refine At.nx (fun _ _ h => h) [24,23,22,3,2] rfl ?_
 refine Ev.sq ?_
 refine Ev.bk 1 ?_
 refine Ev.sr 3 ?_
 refine Rg.p 25 (.index 201 (.tmp 22) (.tmp 23)) (v := .agg #[.int .u32 s.wh, .int .u32 s.ws, .int .u32 s.wn]) (pv_index_agg (e := 200) (sz := 3) (n := 2) (cs' := #[.int .u32 s.wh, .int .u32 s.ws, .int .u32 s.wn]) rfl rfl (by kernel_rfl) (by kernel_rfl) (by kernel_rfl) (by decide) (by decide) (by kernel_rfl)) ?_
 refine Rg.al 5 200 (.agg #[.int .u32 0, .int .u32 0, .int .u32 0]) fun b3 => ?_
 refine Rg.st 200 5 (.tmp 25) 0 #[.int .u32 s.wh, .int .u32 s.ws, .int .u32 s.wn] rfl rfl rfl ?_
 refine Rg.nx (fun _ _ h => h) [25,24,23,22,5,3,2] rfl ?_
 refine Ev.rg 18 ?_
 refine Rg.mv 26 3 rfl ?_
 refine Rg.mv 27 26 rfl ?_
 refine Rg.go 6 31 27 (decide (2 < s.wh)) rfl (fun h16 => ?_) (fun h16 => ?_) ?_
 ·
  refine Rg.skips 5 (by kernel_rfl) ?_
  refine Rg.p 31 (.pick (.tmp 27) (.const (.bool true)) (.tmp 30)) (pv_pick_t rfl rfl) ?_
  exact Rg.em 27 h16 (ot_t h16) rfl rfl
 ·
  have ⟨h17, h18⟩ := or_f h16
  have ⟨h19, h20⟩ := or_f h17
  have ⟨h21, h22⟩ := or_f h19
  have h23 := of_decide_eq_true (not_f h22)
  have h24 := of_decide_eq_false h20
  refine Rg.pg 1 false 28 (.fieldAddr 200 (.tmp 5) 0) (pv_fieldAddr rfl (n := 0) (by kernel_rfl)) ?_
  refine Rg.pg 1 false 29 (.load 57 (.tmp 28)) (v := .int .u32 s.wh) (pv_load_blk 0 rfl rfl (by kernel_rfl) rfl) ?_
  refine Rg.pg 1 false 30 (.binOp .gtr 57 (.tmp 29) (.const (.int .u32 2)) 57) (pv_gtr rfl rfl) ?_
  refine Rg.p 31 (.pick (.tmp 27) (.const (.bool true)) (.tmp 30)) (pv_pick_f rfl rfl) ?_
  exact Rg.em 27 h16 (ot_f h16) rfl rfl
 refine Rg.mv 32 31 rfl ?_
 refine Rg.go 17 42 32 ((decide (s.wh = 2)) && (!(decide (s.wn < 1000000000)))) rfl (fun h25 => ?_) (fun h25 => ?_) ?_
 ·
  refine Rg.skips 16 (by kernel_rfl) ?_
  refine Rg.p 42 (.pick (.tmp 32) (.const (.bool true)) (.tmp 41)) (pv_pick_t rfl rfl) ?_
  exact Rg.em 32 h25 (ot_t h25) rfl rfl
 ·
  have ⟨h26, h27⟩ := or_f h25
  have ⟨h28, h29⟩ := or_f h26
  have ⟨h30, h31⟩ := or_f h28
  have ⟨h32, h33⟩ := or_f h30
  have h34 := of_decide_eq_true (not_f h33)
  have h35 := of_decide_eq_false h31
  have h36 := of_decide_eq_false h27
  refine Rg.pg 6 false 33 (.fieldAddr 200 (.tmp 5) 0) (pv_fieldAddr rfl (n := 0) (by kernel_rfl)) ?_
  refine Rg.pg 6 false 34 (.load 57 (.tmp 33)) (v := .int .u32 s.wh) (pv_load_blk 0 rfl rfl (by kernel_rfl) rfl) ?_
  refine Rg.pg 6 false 35 (.binOp .eql 57 (.tmp 34) (.const (.int .u32 2)) 57) (pv_eql rfl rfl) ?_
  refine Rg.pg 6 false 36 (.move (.tmp 35)) (pv_move rfl) ?_
  refine Rg.ga 16 41 36 (!(decide (s.wn < 1000000000))) rfl (fun h37 => ?_) (fun h37 => ?_) ?_
  ·
   have h38 := of_decide_eq_true h37
   refine Rg.pg 10 true 37 (.fieldAddr 200 (.tmp 5) 1) (pv_fieldAddr rfl (n := 1) (by kernel_rfl)) ?_
   refine Rg.pg 10 true 38 (.load 36 (.tmp 37)) (v := .agg #[.int .u32 s.ws, .int .u32 s.wn]) (pv_load_blk_agg 0 rfl rfl (vs := #[.int .u32 s.ws, .int .u32 s.wn]) (by kernel_rfl) (by kernel_rfl) (agg_rfl (by kernel_rfl))) ?_
   refine rg_call (d := some 39) (f := 59) (xs := #[.tmp 38]) (ts := #[36]) (g := some (10, true)) (v := .bool (decide (s.wn < 1000000000))) (by kernel_rfl) (by kernel_rfl) (by kernel_rfl) rfl (fun w hw => timesCheck_calls) ?_
   refine Rg.pg 10 true 40 (.unOp .not 4 (.tmp 39)) (pv_not (b := decide (s.wn < 1000000000)) rfl) ?_
   refine Rg.pg 6 false 41 (.pick (.tmp 36) (.tmp 40) (.const (.bool false))) (pv_pick_t rfl rfl) ?_
   exact Rg.em 36 h37 (at_t h37) rfl rfl
  ·
   refine Rg.skips 15 (by kernel_rfl) ?_
   refine Rg.pg 6 false 41 (.pick (.tmp 36) (.tmp 40) (.const (.bool false))) (pv_pick_f rfl rfl) ?_
   exact Rg.em 36 h37 (at_f h37) rfl rfl
  refine Rg.p 42 (.pick (.tmp 32) (.const (.bool true)) (.tmp 41)) (pv_pick_f rfl rfl) ?_
  exact Rg.em 32 h25 (ot_f h25) rfl rfl
 refine Rg.as 3 42 rfl ?_
 refine Rg.nx (fun _ _ h => h) [42,32,31,27,26,25,24,23,22,5,3,2] rfl ?_
 refine Ev.rg 2 ?_
 refine Rg.p 43 (.binOp .add 3 (.tmp 23) (.const (.int .i64 1)) 3) (v := .int .i64 2) (pv_addL (2) rfl rfl (by decide) (by kernel_rfl)) ?_
 refine Rg.mv 23 43 rfl ?_
 refine Rg.fin rfl ?_
 refine At.again 0 (fun _ _ h => h) [23,22,3,2] rfl ?_
 refine Ev.sr 1 ?_
 refine Rg.p 24 (.binOp .lss 3 (.tmp 23) (.const (.int .i64 2)) 3) (pv_lss rfl rfl) ?_
 refine Rg.know 24 (b := decide (2 < 2)) (c := false) rfl (by decide) ?_
 refine Rg.nx (fun _ _ h => h) [24,23,22,3,2] rfl ?_
 refine Ev.sq ?_
 refine ev_cond_f (t := 24) (by kernel_rfl) rfl ?_
 refine Ev.xt 0 ?_
 refine At.nx (fun _ _ h => h) [3,2] rfl ?_
 refine Ev.sq ?_
 refine Ev.sr 1 ?_
 refine Rg.mv 44 3 rfl ?_
 refine Rg.nx (fun _ _ h => h) [44,2] rfl ?_
 refine Ev.cd 44 rfl (fun h39 => ?_) (fun h39 => ?_)
 ·
  refine Ev.sr 1 ?_
  refine Rg.ac 2 (.int .u32 22) ?_
  refine Rg.nx (fun _ _ h => h) [2] rfl ?_
  refine Ev.rt ?_
  refine At.via (Q := Q) hQ ?_
  refine At.ret1 rfl rfl rfl ?_
  exact fun w hw => ⟨(by unfold formS; rw [h39]; rfl), hw.base_below 3 rfl⟩
 ·
  have ⟨h40, h41⟩ := or_f h39
  have ⟨h42, h43⟩ := or_f h40
  have ⟨h44, h45⟩ := or_f h42
  have ⟨h46, h47⟩ := or_f h44
  have ⟨h48, h49⟩ := or_f h46
  have h50 := of_decide_eq_true (not_f h49)
  have h51 := of_decide_eq_false h47
  have h52 := of_decide_eq_false h43
  refine Ev.sk ?_
  refine At.nx (fun _ _ h => h) [2] rfl ?_
  refine Ev.sr 1 ?_
  refine Rg.ac 2 (.int .u32 0) ?_
  refine Rg.nx (fun _ _ h => h) [2] rfl ?_
  refine Ev.rt ?_
  refine At.via (Q := Q) hQ ?_
  refine At.ret1 rfl rfl rfl ?_
  exact fun w hw => ⟨(by unfold formS; rw [h39]; rfl), hw.base_below 3 rfl⟩

noncomputable def ownerS (ns : List Node) (n : Int) (c : CredD) (s : SetD) (nows nown : Int) (ow : Bool) : Int := cond (((s.hm && (!ow)) || ((s.hu && (!(decide (c.user = 0)))) && ((!ow) || (!(decide (s.user = ((nd ns ((n).toNat)).user))))))) || (s.hg && ((!ow) || (((!(decide (c.user = 0))) && (!(decide (s.group = ((nd ns ((n).toNat)).group))))) && (!(inS c s.group))))))
  (1)
  (0)

set_option maxHeartbeats 8000000 in
theorem ownerS_calls {n : Int} {s : SetD} {nows nown : Int} {ow : Bool} {p : Option Addr} {ns : List Node} {al : List Loc} {cap : Nat} {gen : Int} {w : World} (hT : NodesAt (Low w) w p ns al) (hW : NodesWf ns) {pg : Option Addr} {c : CredD} {cg : Nat} (hG : NumsAt (Low w) w pg c.groups) (hgl : c.groups.length ≤ 16777216) (hth : thereS ns n = true) :
  Calls Try.prog 67 #[.agg #[.slice p ns.length cap, .int .u32 gen, .int .i64 n, .int .u32 c.user, .int .u32 c.group, .slice pg c.groups.length cg, .bool s.hm, .int .u32 s.mode, .bool s.hu, .int .u32 s.user, .bool s.hg, .int .u32 s.group, .bool s.hs, .int .u64 s.size, .int .u32 s.rh, .int .u32 s.rs, .int .u32 s.rn, .int .u32 s.wh, .int .u32 s.ws, .int .u32 s.wn, .int .u32 nows, .int .u32 nown, .bool ow]] w (Ret w (.int .u32 (ownerS ns n c s nows nown ow))) := by
 refine calls_ofQ (args := [_]) [base w (Low w)] Try.func67 (by kernel_rfl) (by kernel_rfl) (Heap.start w) ?_
 intro Q hQ
 have h0_ := thereS_t hth
 have h1_ := h0_.1
 have h2_ := h0_.2.1
 refine Ev.sr 2 ?_
 refine Rg.bx 1 143 (.tmp 0) rfl fun b1 => ?_
 refine Rg.ac 2 (.int .u32 0) ?_
 refine Rg.nx (fun _ _ h => h) [2,1] rfl ?_
 refine Ev.sq ?_
 have ⟨q2, o3, hp4⟩ := hT.rows.adr (by omega)
 refine Ev.ke [2,1] rfl ?_
 refine ev_csl (n := 13) (E := [(1, .pointer (some ⟨b1, 0, none⟩)), (2, .int .u32 0)]) ⟨13, 6, [[0], [0, 1], [0, 1, 2], [3], [3, 4], [0, 1, 2, 3, 4, 5], [0, 1, 2, 3, 4, 5, 6], [7], [7, 8], [9], [10], [0, 1, 2, 3, 4, 5, 6, 9, 10, 11], [0, 1, 2, 3, 4, 5, 6, 7, 8, 9, 10, 11, 12]], [[], [0], [1], [], [3], [2, 4], [5], [], [7], [], [], [9, 6], [10, 8]], [none, none, some 9, some 10, some 11, some 12], [none, none, some 11, some 12, none, none], [[], [], [0], [], [0], [], [1], [], [0], [], [], [], []]⟩ (fun ch j => ([.pointer (some ⟨b1, 0 + 0, none⟩), .pointer (some ⟨b1, 0 + 0 + 0, none⟩), .slice p ns.length cap, .pointer (some ⟨b1, 0 + 2, none⟩), .int .i64 n, .pointer (some ⟨q2, o3 + (n).toNat * 25, none⟩), .agg ((nd ns ((n).toNat)).cells (lc al ((n).toNat))), .pointer (some ⟨b1, 0 + 6, none⟩), .agg #[.bool s.hm, .int .u32 s.mode, .bool s.hu, .int .u32 s.user, .bool s.hg, .int .u32 s.group, .bool s.hs, .int .u64 s.size, .int .u32 s.rh, .int .u32 s.rs, .int .u32 s.rn, .int .u32 s.wh, .int .u32 s.ws, .int .u32 s.wn], .pointer (some ⟨(ch 9).fd, 0, none⟩), .pointer (some ⟨(ch 10).fd, 0, none⟩), undef, undef] : List Value).getD j undef) (fun ch t => ([blk b1 (.cells #[.slice p ns.length cap, .int .u32 gen, .int .i64 n, .int .u32 c.user, .int .u32 c.group, .slice pg c.groups.length cg, .bool s.hm, .int .u32 s.mode, .bool s.hu, .int .u32 s.user, .bool s.hg, .int .u32 s.group, .bool s.hs, .int .u64 s.size, .int .u32 s.rh, .int .u32 s.rs, .int .u32 s.rn, .int .u32 s.wh, .int .u32 s.ws, .int .u32 s.wn, .int .u32 nows, .int .u32 nown, .bool ow] 143 (0, 0)), base w (Low w), blk (ch 9).fd (.cells #[.int .u32 0, .int .u32 0, .int .u32 0, .int .u32 0, .int .u32 0, .int .i64 0, .int .u32 0, .int .u32 0, .int .u32 0, .int .u32 0, .int .u32 0, .int .u32 0, .slice none 0 0, .int .u8 0, .int .u8 0, .int .u8 0, .int .u8 0, .int .u8 0, .int .u8 0, .int .u8 0, .int .u8 0, .string ⟨#[]⟩, .slice none 0 0, .int .i64 0, .int .u64 0] 44 (0, 0)), blk (ch 10).fd (.cells #[.bool false, .int .u32 0, .bool false, .int .u32 0, .bool false, .int .u32 0, .bool false, .int .u64 0, .int .u32 0, .int .u32 0, .int .u32 0, .int .u32 0, .int .u32 0, .int .u32 0] 59 (0, 0)), blk (ch 9).fd (.cells ((nd ns ((n).toNat)).cells (lc al ((n).toNat))) 44 (0, 0)), blk (ch 10).fd (.cells #[.bool s.hm, .int .u32 s.mode, .bool s.hu, .int .u32 s.user, .bool s.hg, .int .u32 s.group, .bool s.hs, .int .u64 s.size, .int .u32 s.rh, .int .u32 s.rs, .int .u32 s.rn, .int .u32 s.wh, .int .u32 s.ws, .int .u32 s.wn] 59 (0, 0))] : List Item).getD t noItem) (by kernel_rfl) (by kernel_rfl) (fun ch => by kernel_rfl) ?_ ?_
 ·
  refine all_lt_succ (all_lt_succ (all_lt_succ (all_lt_succ (all_lt_succ (all_lt_succ (all_lt_succ (all_lt_succ (all_lt_succ (all_lt_succ (all_lt_succ (all_lt_succ (all_lt_succ all_lt_zero ?_) ?_) ?_) ?_) ?_) ?_) ?_) ?_) ?_) ?_) ?_) ?_) ?_
  ·
   intro ch R F
   refine csl_go [] [] ?_
   refine Rg.fa 6 143 1 0 0 rfl ?_
   exact csl_end {}
  ·
   intro ch R F
   refine csl_go [(6, .pointer (some ⟨b1, 0 + 0, none⟩))] [] ?_
   refine Rg.fa 7 25 6 0 0 rfl ?_
   exact csl_end {}
  ·
   intro ch R F
   refine csl_go [(7, .pointer (some ⟨b1, 0 + 0 + 0, none⟩))] [blk b1 (.cells #[.slice p ns.length cap, .int .u32 gen, .int .i64 n, .int .u32 c.user, .int .u32 c.group, .slice pg c.groups.length cg, .bool s.hm, .int .u32 s.mode, .bool s.hu, .int .u32 s.user, .bool s.hg, .int .u32 s.group, .bool s.hs, .int .u64 s.size, .int .u32 s.rh, .int .u32 s.rs, .int .u32 s.rn, .int .u32 s.wh, .int .u32 s.ws, .int .u32 s.wn, .int .u32 nows, .int .u32 nown, .bool ow] 143 (0, 0))] ?_
   refine Rg.ld 8 22 7 0 rfl rfl rfl ?_
   exact csl_end {}
  ·
   intro ch R F
   refine csl_go [] [] ?_
   refine Rg.fa 9 143 1 1 2 rfl ?_
   exact csl_end {}
  ·
   intro ch R F
   refine csl_go [(9, .pointer (some ⟨b1, 0 + 2, none⟩))] [blk b1 (.cells #[.slice p ns.length cap, .int .u32 gen, .int .i64 n, .int .u32 c.user, .int .u32 c.group, .slice pg c.groups.length cg, .bool s.hm, .int .u32 s.mode, .bool s.hu, .int .u32 s.user, .bool s.hg, .int .u32 s.group, .bool s.hs, .int .u64 s.size, .int .u32 s.rh, .int .u32 s.rs, .int .u32 s.rn, .int .u32 s.wh, .int .u32 s.ws, .int .u32 s.wn, .int .u32 nows, .int .u32 nown, .bool ow] 143 (0, 0))] ?_
   refine Rg.ld 10 3 9 0 rfl rfl rfl ?_
   exact csl_end {}
  ·
   intro ch R F
   refine csl_go [(8, .slice p ns.length cap), (10, .int .i64 n)] [] ?_
   refine Rg.p 11 (.indexAddr 22 (.tmp 8) (.tmp 10)) (v := .pointer (some ⟨q2, o3 + (n).toNat * 25, none⟩)) (pv_indexAddr' rfl hp4 rfl (e := 44) (sz := 25) (by kernel_rfl) (by omega) (by omega)) ?_
   exact csl_end {}
  ·
   intro ch R F
   refine csl_go [(11, .pointer (some ⟨q2, o3 + (n).toNat * 25, none⟩))] [base w (Low w)] ?_
   refine Rg.p 12 (.load 44 (.tmp 11)) (v := .agg ((nd ns ((n).toNat)).cells (lc al ((n).toNat)))) (pv_load_node (i := (n).toNat) (ns := ns) rfl hp4 (by omega) (by kernel_rfl) (by kernel_rfl) (fun w hw => ((hT).keep (hw.at_ 0 rfl) (fun k hk => hw.lt 0 rfl hk)))) ?_
   exact csl_end {}
  ·
   intro ch R F
   refine csl_go [] [] ?_
   refine Rg.fa 13 143 1 3 6 rfl ?_
   exact csl_end {}
  ·
   intro ch R F
   refine csl_go [(13, .pointer (some ⟨b1, 0 + 6, none⟩))] [blk b1 (.cells #[.slice p ns.length cap, .int .u32 gen, .int .i64 n, .int .u32 c.user, .int .u32 c.group, .slice pg c.groups.length cg, .bool s.hm, .int .u32 s.mode, .bool s.hu, .int .u32 s.user, .bool s.hg, .int .u32 s.group, .bool s.hs, .int .u64 s.size, .int .u32 s.rh, .int .u32 s.rs, .int .u32 s.rn, .int .u32 s.wh, .int .u32 s.ws, .int .u32 s.wn, .int .u32 nows, .int .u32 nown, .bool ow] 143 (0, 0))] ?_
   refine Rg.p 14 (.load 59 (.tmp 13)) (v := .agg #[.bool s.hm, .int .u32 s.mode, .bool s.hu, .int .u32 s.user, .bool s.hg, .int .u32 s.group, .bool s.hs, .int .u64 s.size, .int .u32 s.rh, .int .u32 s.rs, .int .u32 s.rn, .int .u32 s.wh, .int .u32 s.ws, .int .u32 s.wn]) (pv_load_blk_agg 0 rfl rfl (vs := #[.bool s.hm, .int .u32 s.mode, .bool s.hu, .int .u32 s.user, .bool s.hg, .int .u32 s.group, .bool s.hs, .int .u64 s.size, .int .u32 s.rh, .int .u32 s.rs, .int .u32 s.rn, .int .u32 s.wh, .int .u32 s.ws, .int .u32 s.wn]) (by kernel_rfl) (by kernel_rfl) (agg_rfl (by kernel_rfl))) ?_
   exact csl_end {}
  ·
   intro ch R F
   refine csl_go [] [] ?_
   refine Rg.al 3 44 (.agg #[.int .u32 0, .int .u32 0, .int .u32 0, .int .u32 0, .int .u32 0, .int .i64 0, .int .u32 0, .int .u32 0, .int .u32 0, .int .u32 0, .int .u32 0, .int .u32 0, .slice none 0 0, .int .u8 0, .int .u8 0, .int .u8 0, .int .u8 0, .int .u8 0, .int .u8 0, .int .u8 0, .int .u8 0, .string ⟨#[]⟩, .slice none 0 0, .int .i64 0, .int .u64 0]) fun b5 => ?_
   exact csl_end {fd := b5}
  ·
   intro ch R F
   refine csl_go [] [] ?_
   refine Rg.al 4 59 (.agg #[.bool false, .int .u32 0, .bool false, .int .u32 0, .bool false, .int .u32 0, .bool false, .int .u64 0, .int .u32 0, .int .u32 0, .int .u32 0, .int .u32 0, .int .u32 0, .int .u32 0]) fun b6 => ?_
   exact csl_end {fd := b6}
  ·
   intro ch R F
   refine csl_go [(3, .pointer (some ⟨(ch 9).fd, 0, none⟩)), (12, .agg ((nd ns ((n).toNat)).cells (lc al ((n).toNat))))] [blk (ch 9).fd (.cells #[.int .u32 0, .int .u32 0, .int .u32 0, .int .u32 0, .int .u32 0, .int .i64 0, .int .u32 0, .int .u32 0, .int .u32 0, .int .u32 0, .int .u32 0, .int .u32 0, .slice none 0 0, .int .u8 0, .int .u8 0, .int .u8 0, .int .u8 0, .int .u8 0, .int .u8 0, .int .u8 0, .int .u8 0, .string ⟨#[]⟩, .slice none 0 0, .int .i64 0, .int .u64 0] 44 (0, 0))] ?_
   refine Rg.st 44 3 (.tmp 12) 0 ((nd ns ((n).toNat)).cells (lc al ((n).toNat))) rfl rfl rfl ?_
   exact csl_end {}
  ·
   intro ch R F
   refine csl_go [(4, .pointer (some ⟨(ch 10).fd, 0, none⟩)), (14, .agg #[.bool s.hm, .int .u32 s.mode, .bool s.hu, .int .u32 s.user, .bool s.hg, .int .u32 s.group, .bool s.hs, .int .u64 s.size, .int .u32 s.rh, .int .u32 s.rs, .int .u32 s.rn, .int .u32 s.wh, .int .u32 s.ws, .int .u32 s.wn])] [blk (ch 10).fd (.cells #[.bool false, .int .u32 0, .bool false, .int .u32 0, .bool false, .int .u32 0, .bool false, .int .u64 0, .int .u32 0, .int .u32 0, .int .u32 0, .int .u32 0, .int .u32 0, .int .u32 0] 59 (0, 0))] ?_
   refine Rg.st 59 4 (.tmp 14) 0 #[.bool s.hm, .int .u32 s.mode, .bool s.hu, .int .u32 s.user, .bool s.hg, .int .u32 s.group, .bool s.hs, .int .u64 s.size, .int .u32 s.rh, .int .u32 s.rs, .int .u32 s.rn, .int .u32 s.wh, .int .u32 s.ws, .int .u32 s.wn] rfl rfl rfl ?_
   exact csl_end {}
 ·
  intro ch
  refine at_codeS [0, 1, 2, 3] [(1, .pointer (some ⟨b1, 0, none⟩)), (2, .int .u32 0), (3, .pointer (some ⟨(ch 9).fd, 0, none⟩)), (4, .pointer (some ⟨(ch 10).fd, 0, none⟩))] [blk b1 (.cells #[.slice p ns.length cap, .int .u32 gen, .int .i64 n, .int .u32 c.user, .int .u32 c.group, .slice pg c.groups.length cg, .bool s.hm, .int .u32 s.mode, .bool s.hu, .int .u32 s.user, .bool s.hg, .int .u32 s.group, .bool s.hs, .int .u64 s.size, .int .u32 s.rh, .int .u32 s.rs, .int .u32 s.rn, .int .u32 s.wh, .int .u32 s.ws, .int .u32 s.wn, .int .u32 nows, .int .u32 nown, .bool ow] 143 (0, 0)), base w (Low w), blk (ch 9).fd (.cells ((nd ns ((n).toNat)).cells (lc al ((n).toNat))) 44 (0, 0)), blk (ch 10).fd (.cells #[.bool s.hm, .int .u32 s.mode, .bool s.hu, .int .u32 s.user, .bool s.hg, .int .u32 s.group, .bool s.hs, .int .u64 s.size, .int .u32 s.rh, .int .u32 s.rs, .int .u32 s.rn, .int .u32 s.wh, .int .u32 s.ws, .int .u32 s.wn] 59 (0, 0))] (.cons (by kernel_rfl) (.cons (by kernel_rfl) (.cons (by kernel_rfl) (.cons (by kernel_rfl) (.nil _))))) (by kernel_rfl) (by decide) (fun _ _ h => h) ?_
  obtain ⟨b5, e_b5⟩ : ∃ x_, (ch 9).fd = x_ := ⟨_, rfl⟩
  obtain ⟨b6, e_b6⟩ : ∃ x_, (ch 10).fd = x_ := ⟨_, rfl⟩
  rw [e_b5, e_b6]
  refine Ev.sr 5 ?_
  refine Rg.fa 15 143 1 2 3 rfl ?_
  refine Rg.fa 16 56 15 0 0 rfl ?_
  refine Rg.ld 17 23 16 0 rfl rfl rfl ?_
  refine Rg.p 18 (.binOp .eql 23 (.tmp 17) (.const (.int .u32 0)) 23) (pv_eql rfl rfl) ?_
  refine Rg.as 5 18 rfl ?_
  refine Rg.nx (fun _ _ h => h) [5,4,3,2,1] rfl ?_
  refine Ev.sq ?_
  refine Ev.sr 55 ?_
  refine Rg.fa 19 59 4 0 0 rfl ?_
  refine Rg.ld 20 4 19 3 rfl rfl rfl ?_
  refine Rg.mv 21 20 rfl ?_
  refine Rg.ga 7 25 21 (!ow) rfl (fun h1 => ?_) (fun h1 => ?_) ?_
  ·
   refine Rg.pg 2 true 22 (.fieldAddr 143 (.tmp 1) 5) (pv_fieldAddr rfl (n := 22) (by kernel_rfl)) ?_
   refine Rg.pg 2 true 23 (.load 4 (.tmp 22)) (v := .bool ow) (pv_load_blk 0 rfl rfl (by kernel_rfl) rfl) ?_
   refine Rg.pg 2 true 24 (.unOp .not 4 (.tmp 23)) (pv_not (b := ow) rfl) ?_
   refine Rg.p 25 (.pick (.tmp 21) (.tmp 24) (.const (.bool false))) (pv_pick_t rfl rfl) ?_
   exact Rg.em 21 h1 (at_t h1) rfl rfl
  ·
   refine Rg.skips 6 (by kernel_rfl) ?_
   refine Rg.p 25 (.pick (.tmp 21) (.tmp 24) (.const (.bool false))) (pv_pick_f rfl rfl) ?_
   exact Rg.em 21 h1 (at_f h1) rfl rfl
  refine Rg.mv 26 25 rfl ?_
  refine Rg.go 27 45 26 ((s.hu && (!(decide (c.user = 0)))) && ((!ow) || (!(decide (s.user = ((nd ns ((n).toNat)).user)))))) rfl (fun h2 => ?_) (fun h2 => ?_) ?_
  ·
   refine Rg.skips 26 (by kernel_rfl) ?_
   refine Rg.p 45 (.pick (.tmp 26) (.const (.bool true)) (.tmp 44)) (pv_pick_t rfl rfl) ?_
   exact Rg.em 26 h2 (ot_t h2) rfl rfl
  ·
   refine Rg.pg 7 false 27 (.fieldAddr 59 (.tmp 4) 2) (pv_fieldAddr rfl (n := 2) (by kernel_rfl)) ?_
   refine Rg.pg 7 false 28 (.load 4 (.tmp 27)) (v := .bool s.hu) (pv_load_blk 3 rfl rfl (by kernel_rfl) rfl) ?_
   refine Rg.pg 7 false 29 (.move (.tmp 28)) (pv_move rfl) ?_
   refine Rg.ga 14 32 29 (!(decide (c.user = 0))) rfl (fun h3 => ?_) (fun h3 => ?_) ?_
   ·
    refine Rg.pg 10 true 30 (.move (.tmp 5)) (pv_move rfl) ?_
    refine Rg.pg 10 true 31 (.unOp .not 4 (.tmp 30)) (pv_not (b := decide (c.user = 0)) rfl) ?_
    refine Rg.pg 7 false 32 (.pick (.tmp 29) (.tmp 31) (.const (.bool false))) (pv_pick_t rfl rfl) ?_
    exact Rg.em 29 h3 (at_t h3) rfl rfl
   ·
    refine Rg.skips 13 (by kernel_rfl) ?_
    refine Rg.pg 7 false 32 (.pick (.tmp 29) (.tmp 31) (.const (.bool false))) (pv_pick_f rfl rfl) ?_
    exact Rg.em 29 h3 (at_f h3) rfl rfl
   refine Rg.pg 7 false 33 (.move (.tmp 32)) (pv_move rfl) ?_
   refine Rg.ga 26 44 33 ((!ow) || (!(decide (s.user = ((nd ns ((n).toNat)).user))))) rfl (fun h4 => ?_) (fun h4 => ?_) ?_
   ·
    have ⟨h5, h6⟩ := and_t h4
    have h7 := of_decide_eq_false (not_t h6)
    refine Rg.pg 14 true 34 (.fieldAddr 143 (.tmp 1) 5) (pv_fieldAddr rfl (n := 22) (by kernel_rfl)) ?_
    refine Rg.pg 14 true 35 (.load 4 (.tmp 34)) (v := .bool ow) (pv_load_blk 0 rfl rfl (by kernel_rfl) rfl) ?_
    refine Rg.pg 14 true 36 (.unOp .not 4 (.tmp 35)) (pv_not (b := ow) rfl) ?_
    refine Rg.pg 14 true 37 (.move (.tmp 36)) (pv_move rfl) ?_
    refine Rg.go 25 43 37 (!(decide (s.user = ((nd ns ((n).toNat)).user)))) rfl (fun h8 => ?_) (fun h8 => ?_) ?_
    ·
     refine Rg.skips 24 (by kernel_rfl) ?_
     refine Rg.pg 14 true 43 (.pick (.tmp 37) (.const (.bool true)) (.tmp 42)) (pv_pick_t rfl rfl) ?_
     exact Rg.em 37 h8 (ot_t h8) rfl rfl
    ·
     have h9 := not_f h8
     refine Rg.pg 18 false 38 (.fieldAddr 59 (.tmp 4) 3) (pv_fieldAddr rfl (n := 3) (by kernel_rfl)) ?_
     refine Rg.pg 18 false 39 (.load 23 (.tmp 38)) (v := .int .u32 s.user) (pv_load_blk 3 rfl rfl (by kernel_rfl) rfl) ?_
     refine Rg.pg 18 false 40 (.fieldAddr 44 (.tmp 3) 3) (pv_fieldAddr rfl (n := 3) (by kernel_rfl)) ?_
     refine Rg.pg 18 false 41 (.load 23 (.tmp 40)) (v := .int .u32 ((nd ns ((n).toNat)).user)) (pv_load_blk 2 rfl rfl (by kernel_rfl) rfl) ?_
     refine Rg.pg 18 false 42 (.binOp .neq 23 (.tmp 39) (.tmp 41) 23) (pv_neq rfl rfl) ?_
     refine Rg.pg 14 true 43 (.pick (.tmp 37) (.const (.bool true)) (.tmp 42)) (pv_pick_f rfl rfl) ?_
     exact Rg.em 37 h8 (ot_f h8) rfl rfl
    refine Rg.pg 7 false 44 (.pick (.tmp 33) (.tmp 43) (.const (.bool false))) (pv_pick_t rfl rfl) ?_
    exact Rg.em 33 h4 (at_t h4) rfl rfl
   ·
    refine Rg.skips 25 (by kernel_rfl) ?_
    refine Rg.pg 7 false 44 (.pick (.tmp 33) (.tmp 43) (.const (.bool false))) (pv_pick_f rfl rfl) ?_
    exact Rg.em 33 h4 (at_f h4) rfl rfl
   refine Rg.p 45 (.pick (.tmp 26) (.const (.bool true)) (.tmp 44)) (pv_pick_f rfl rfl) ?_
   exact Rg.em 26 h2 (ot_f h2) rfl rfl
  refine Rg.mv 46 45 rfl ?_
  refine Rg.go 55 73 46 (s.hg && ((!ow) || (((!(decide (c.user = 0))) && (!(decide (s.group = ((nd ns ((n).toNat)).group))))) && (!(inS c s.group))))) rfl (fun h10 => ?_) (fun h10 => ?_) ?_
  ·
   refine Rg.skips 54 (by kernel_rfl) ?_
   refine Rg.p 73 (.pick (.tmp 46) (.const (.bool true)) (.tmp 72)) (pv_pick_t rfl rfl) ?_
   exact Rg.em 46 h10 (ot_t h10) rfl rfl
  ·
   have ⟨h11, h12⟩ := or_f h10
   refine Rg.pg 27 false 47 (.fieldAddr 59 (.tmp 4) 4) (pv_fieldAddr rfl (n := 4) (by kernel_rfl)) ?_
   refine Rg.pg 27 false 48 (.load 4 (.tmp 47)) (v := .bool s.hg) (pv_load_blk 3 rfl rfl (by kernel_rfl) rfl) ?_
   refine Rg.pg 27 false 49 (.move (.tmp 48)) (pv_move rfl) ?_
   refine Rg.ga 54 72 49 ((!ow) || (((!(decide (c.user = 0))) && (!(decide (s.group = ((nd ns ((n).toNat)).group))))) && (!(inS c s.group)))) rfl (fun h13 => ?_) (fun h13 => ?_) ?_
   ·
    refine Rg.pg 30 true 50 (.fieldAddr 143 (.tmp 1) 5) (pv_fieldAddr rfl (n := 22) (by kernel_rfl)) ?_
    refine Rg.pg 30 true 51 (.load 4 (.tmp 50)) (v := .bool ow) (pv_load_blk 0 rfl rfl (by kernel_rfl) rfl) ?_
    refine Rg.pg 30 true 52 (.unOp .not 4 (.tmp 51)) (pv_not (b := ow) rfl) ?_
    refine Rg.pg 30 true 53 (.move (.tmp 52)) (pv_move rfl) ?_
    refine Rg.go 53 71 53 (((!(decide (c.user = 0))) && (!(decide (s.group = ((nd ns ((n).toNat)).group))))) && (!(inS c s.group))) rfl (fun h14 => ?_) (fun h14 => ?_) ?_
    ·
     refine Rg.skips 52 (by kernel_rfl) ?_
     refine Rg.pg 30 true 71 (.pick (.tmp 53) (.const (.bool true)) (.tmp 70)) (pv_pick_t rfl rfl) ?_
     exact Rg.em 53 h14 (ot_t h14) rfl rfl
    ·
     have h15 := not_f h14
     refine Rg.pg 34 false 54 (.move (.tmp 5)) (pv_move rfl) ?_
     refine Rg.pg 34 false 55 (.unOp .not 4 (.tmp 54)) (pv_not (b := decide (c.user = 0)) rfl) ?_
     refine Rg.pg 34 false 56 (.move (.tmp 55)) (pv_move rfl) ?_
     refine Rg.ga 44 62 56 (!(decide (s.group = ((nd ns ((n).toNat)).group)))) rfl (fun h16 => ?_) (fun h16 => ?_) ?_
     ·
      have h17 := of_decide_eq_false (not_t h16)
      refine Rg.pg 37 true 57 (.fieldAddr 59 (.tmp 4) 5) (pv_fieldAddr rfl (n := 5) (by kernel_rfl)) ?_
      refine Rg.pg 37 true 58 (.load 23 (.tmp 57)) (v := .int .u32 s.group) (pv_load_blk 3 rfl rfl (by kernel_rfl) rfl) ?_
      refine Rg.pg 37 true 59 (.fieldAddr 44 (.tmp 3) 4) (pv_fieldAddr rfl (n := 4) (by kernel_rfl)) ?_
      refine Rg.pg 37 true 60 (.load 23 (.tmp 59)) (v := .int .u32 ((nd ns ((n).toNat)).group)) (pv_load_blk 2 rfl rfl (by kernel_rfl) rfl) ?_
      refine Rg.pg 37 true 61 (.binOp .neq 23 (.tmp 58) (.tmp 60) 23) (pv_neq rfl rfl) ?_
      refine Rg.pg 34 false 62 (.pick (.tmp 56) (.tmp 61) (.const (.bool false))) (pv_pick_t rfl rfl) ?_
      exact Rg.em 56 h16 (at_t h16) rfl rfl
     ·
      refine Rg.skips 43 (by kernel_rfl) ?_
      refine Rg.pg 34 false 62 (.pick (.tmp 56) (.tmp 61) (.const (.bool false))) (pv_pick_f rfl rfl) ?_
      exact Rg.em 56 h16 (at_f h16) rfl rfl
     refine Rg.pg 34 false 63 (.move (.tmp 62)) (pv_move rfl) ?_
     refine Rg.ga 52 70 63 (!(inS c s.group)) rfl (fun h18 => ?_) (fun h18 => ?_) ?_
     ·
      have ⟨h19, h20⟩ := and_t h18
      have h21 := of_decide_eq_false (not_t h19)
      have h22 := of_decide_eq_false (not_t h20)
      refine Rg.pg 44 true 64 (.fieldAddr 143 (.tmp 1) 2) (pv_fieldAddr rfl (n := 3) (by kernel_rfl)) ?_
      refine Rg.pg 44 true 65 (.load 56 (.tmp 64)) (v := .agg #[.int .u32 c.user, .int .u32 c.group, .slice pg c.groups.length cg]) (pv_load_blk_agg 0 rfl rfl (vs := #[.int .u32 c.user, .int .u32 c.group, .slice pg c.groups.length cg]) (by kernel_rfl) (by kernel_rfl) (agg_rfl (by kernel_rfl))) ?_
      refine Rg.pg 44 true 66 (.fieldAddr 59 (.tmp 4) 5) (pv_fieldAddr rfl (n := 5) (by kernel_rfl)) ?_
      refine Rg.pg 44 true 67 (.load 23 (.tmp 66)) (v := .int .u32 s.group) (pv_load_blk 3 rfl rfl (by kernel_rfl) rfl) ?_
      refine rg_call (d := some 68) (f := 100) (xs := #[.tmp 65, .tmp 67]) (ts := #[56, 23]) (g := some (44, true)) (v := .bool (inS c s.group)) (by kernel_rfl) (by kernel_rfl) (by kernel_rfl) rfl (fun w hw => in_calls (RowsAt.keep hG (hw.at_ 1 rfl) (fun k hk => hw.lt 1 rfl hk)) hgl) ?_
      refine Rg.pg 44 true 69 (.unOp .not 4 (.tmp 68)) (pv_not (b := inS c s.group) rfl) ?_
      refine Rg.pg 34 false 70 (.pick (.tmp 63) (.tmp 69) (.const (.bool false))) (pv_pick_t rfl rfl) ?_
      exact Rg.em 63 h18 (at_t h18) rfl rfl
     ·
      refine Rg.skips 51 (by kernel_rfl) ?_
      refine Rg.pg 34 false 70 (.pick (.tmp 63) (.tmp 69) (.const (.bool false))) (pv_pick_f rfl rfl) ?_
      exact Rg.em 63 h18 (at_f h18) rfl rfl
     refine Rg.pg 30 true 71 (.pick (.tmp 53) (.const (.bool true)) (.tmp 70)) (pv_pick_f rfl rfl) ?_
     exact Rg.em 53 h14 (ot_f h14) rfl rfl
    refine Rg.pg 27 false 72 (.pick (.tmp 49) (.tmp 71) (.const (.bool false))) (pv_pick_t rfl rfl) ?_
    exact Rg.em 49 h13 (at_t h13) rfl rfl
   ·
    refine Rg.skips 53 (by kernel_rfl) ?_
    refine Rg.pg 27 false 72 (.pick (.tmp 49) (.tmp 71) (.const (.bool false))) (pv_pick_f rfl rfl) ?_
    exact Rg.em 49 h13 (at_f h13) rfl rfl
   refine Rg.p 73 (.pick (.tmp 46) (.const (.bool true)) (.tmp 72)) (pv_pick_f rfl rfl) ?_
   exact Rg.em 46 h10 (ot_f h10) rfl rfl
  refine Rg.nx (fun _ _ h => h) [73,2] rfl ?_
  refine Ev.cd 73 rfl (fun h23 => ?_) (fun h23 => ?_)
  ·
   refine Ev.sr 1 ?_
   refine Rg.ac 2 (.int .u32 1) ?_
   refine Rg.nx (fun _ _ h => h) [2] rfl ?_
   refine Ev.rt ?_
   refine At.via (Q := Q) hQ ?_
   refine At.ret1 rfl rfl rfl ?_
   exact fun w hw => ⟨(by unfold ownerS; rw [h23]; rfl), hw.base_below 1 rfl⟩
  ·
   have ⟨h24, h25⟩ := or_f h23
   have ⟨h26, h27⟩ := or_f h24
   refine Ev.sk ?_
   refine At.nx (fun _ _ h => h) [2] rfl ?_
   refine Ev.sr 1 ?_
   refine Rg.ac 2 (.int .u32 0) ?_
   refine Rg.nx (fun _ _ h => h) [2] rfl ?_
   refine Ev.rt ?_
   refine At.via (Q := Q) hQ ?_
   refine At.ret1 rfl rfl rfl ?_
   exact fun w hw => ⟨(by unfold ownerS; rw [h23]; rfl), hw.base_below 1 rfl⟩

noncomputable def sizeSt (ns : List Node) (n : Int) (c : CredD) (s : SetD) (nows nown : Int) (ow : Bool) : Int := cond (!s.hs)
  (0)
  (cond (decide (((nd ns ((n).toNat)).kind) = 2))
  (21)
  (cond (decide (((nd ns ((n).toNat)).kind) = 5))
  (22)
  (cond (decide (65536 < s.size))
  (27)
  (cond (!(ow || (mayS ns n c 2)))
  (13)
  (0)))))

set_option maxHeartbeats 8000000 in
theorem sizeSt_calls {n : Int} {s : SetD} {nows nown : Int} {ow : Bool} {p : Option Addr} {ns : List Node} {al : List Loc} {cap : Nat} {gen : Int} {w : World} (hT : NodesAt (Low w) w p ns al) (hW : NodesWf ns) {pg : Option Addr} {c : CredD} {cg : Nat} (hG : NumsAt (Low w) w pg c.groups) (hgl : c.groups.length ≤ 16777216) (hth : thereS ns n = true) :
  Calls Try.prog 68 #[.agg #[.slice p ns.length cap, .int .u32 gen, .int .i64 n, .int .u32 c.user, .int .u32 c.group, .slice pg c.groups.length cg, .bool s.hm, .int .u32 s.mode, .bool s.hu, .int .u32 s.user, .bool s.hg, .int .u32 s.group, .bool s.hs, .int .u64 s.size, .int .u32 s.rh, .int .u32 s.rs, .int .u32 s.rn, .int .u32 s.wh, .int .u32 s.ws, .int .u32 s.wn, .int .u32 nows, .int .u32 nown, .bool ow]] w (Ret w (.int .u32 (sizeSt ns n c s nows nown ow))) := by
 refine calls_ofQ (args := [_]) [base w (Low w)] Try.func68 (by kernel_rfl) (by kernel_rfl) (Heap.start w) ?_
 intro Q hQ
 have h0_ := thereS_t hth
 have h1_ := h0_.1
 have h2_ := h0_.2.1
 refine Ev.sr 2 ?_
 refine Rg.bx 1 143 (.tmp 0) rfl fun b1 => ?_
 refine Rg.ac 2 (.int .u32 0) ?_
 refine Rg.nx (fun _ _ h => h) [2,1] rfl ?_
 refine Ev.sq ?_
 refine Ev.sr 9 ?_
 refine Rg.fa 4 143 1 0 0 rfl ?_
 refine Rg.fa 5 25 4 0 0 rfl ?_
 refine Rg.ld 6 22 5 0 rfl rfl rfl ?_
 refine Rg.fa 7 143 1 1 2 rfl ?_
 refine Rg.ld 8 3 7 0 rfl rfl rfl ?_
 have ⟨q2, o3, hp4⟩ := hT.rows.adr (by omega)
 refine Rg.p 9 (.indexAddr 22 (.tmp 6) (.tmp 8)) (v := .pointer (some ⟨q2, o3 + (n).toNat * 25, none⟩)) (pv_indexAddr' rfl hp4 rfl (e := 44) (sz := 25) (by kernel_rfl) (by omega) (by omega)) ?_
 refine Rg.fa 10 44 9 0 0 rfl ?_
 refine Rg.p 11 (.load 33 (.tmp 10)) (v := .int .u32 ((nd ns ((n).toNat)).kind)) (pv_load rfl (by kernel_rfl) (fun w hw => ((hT).keep (hw.at_ 1 rfl) (fun _ h => h)).rows.cell _ _ hp4 _ (by omega) 0 (by decide))) ?_
 refine Rg.as 3 11 rfl ?_
 refine Rg.nx (fun _ _ h => h) [3,2,1] rfl ?_
 refine Ev.bk 0 ?_
 refine Ev.sr 5 ?_
 refine Rg.fa 13 143 1 3 6 rfl ?_
 refine Rg.fa 14 59 13 6 6 rfl ?_
 refine Rg.ld 15 4 14 0 rfl rfl rfl ?_
 refine Rg.p 16 (.unOp .not 4 (.tmp 15)) (pv_not (b := s.hs) rfl) ?_
 refine Rg.as 12 16 rfl ?_
 refine Rg.nx (fun _ _ h => h) [12,3,2,1] rfl ?_
 refine Ev.cd 12 rfl (fun h1 => ?_) (fun h1 => ?_)
 ·
  have h2 := not_t h1
  refine Ev.sr 1 ?_
  refine Rg.ac 2 (.int .u32 0) ?_
  refine Rg.nx (fun _ _ h => h) [2] rfl ?_
  refine Ev.rt ?_
  refine At.via (Q := Q) hQ ?_
  refine At.ret1 rfl rfl rfl ?_
  exact fun w hw => ⟨(by unfold sizeSt; rw [h1]; rfl), hw.base_below 1 rfl⟩
 ·
  have h3 := not_f h1
  refine Ev.sr 3 ?_
  refine Rg.mv 18 3 rfl ?_
  refine Rg.p 19 (.binOp .eql 33 (.tmp 18) (.const (.int .u32 2)) 33) (pv_eql rfl rfl) ?_
  refine Rg.as 17 19 rfl ?_
  refine Rg.nx (fun _ _ h => h) [17,3,2,1] rfl ?_
  refine Ev.cd 17 rfl (fun h4 => ?_) (fun h4 => ?_)
  ·
   have h5 := of_decide_eq_true h4
   refine Ev.sr 1 ?_
   refine Rg.ac 2 (.int .u32 21) ?_
   refine Rg.nx (fun _ _ h => h) [2] rfl ?_
   refine Ev.rt ?_
   refine At.via (Q := Q) hQ ?_
   refine At.ret1 rfl rfl rfl ?_
   exact fun w hw => ⟨(by unfold sizeSt; rw [h1, h4]; rfl), hw.base_below 1 rfl⟩
  ·
   have h6 := of_decide_eq_false h4
   refine Ev.sr 3 ?_
   refine Rg.mv 21 3 rfl ?_
   refine Rg.p 22 (.binOp .eql 33 (.tmp 21) (.const (.int .u32 5)) 33) (pv_eql rfl rfl) ?_
   refine Rg.as 20 22 rfl ?_
   refine Rg.nx (fun _ _ h => h) [20,2,1] rfl ?_
   refine Ev.cd 20 rfl (fun h7 => ?_) (fun h7 => ?_)
   ·
    have h8 := of_decide_eq_true h7
    refine Ev.sr 1 ?_
    refine Rg.ac 2 (.int .u32 22) ?_
    refine Rg.nx (fun _ _ h => h) [2] rfl ?_
    refine Ev.rt ?_
    refine At.via (Q := Q) hQ ?_
    refine At.ret1 rfl rfl rfl ?_
    exact fun w hw => ⟨(by unfold sizeSt; rw [h1, h4, h7]; rfl), hw.base_below 1 rfl⟩
   ·
    have h9 := of_decide_eq_false h7
    refine Ev.sr 5 ?_
    refine Rg.fa 24 143 1 3 6 rfl ?_
    refine Rg.fa 25 59 24 7 7 rfl ?_
    refine Rg.ld 26 34 25 0 rfl rfl rfl ?_
    refine Rg.p 27 (.binOp .gtr 34 (.tmp 26) (.const (.int .u64 65536)) 34) (pv_gtr rfl rfl) ?_
    refine Rg.as 23 27 rfl ?_
    refine Rg.nx (fun _ _ h => h) [23,2,1] rfl ?_
    refine Ev.cd 23 rfl (fun h10 => ?_) (fun h10 => ?_)
    ·
     have h11 := of_decide_eq_true h10
     refine Ev.sr 1 ?_
     refine Rg.ac 2 (.int .u32 27) ?_
     refine Rg.nx (fun _ _ h => h) [2] rfl ?_
     refine Ev.rt ?_
     refine At.via (Q := Q) hQ ?_
     refine At.ret1 rfl rfl rfl ?_
     exact fun w hw => ⟨(by unfold sizeSt; rw [h1, h4, h7, h10]; rfl), hw.base_below 1 rfl⟩
    ·
     have h12 := of_decide_eq_false h10
     refine Ev.sr 4 ?_
     refine Rg.p 29 (.load 143 (.tmp 1)) (v := .agg #[.slice p ns.length cap, .int .u32 gen, .int .i64 n, .int .u32 c.user, .int .u32 c.group, .slice pg c.groups.length cg, .bool s.hm, .int .u32 s.mode, .bool s.hu, .int .u32 s.user, .bool s.hg, .int .u32 s.group, .bool s.hs, .int .u64 s.size, .int .u32 s.rh, .int .u32 s.rs, .int .u32 s.rn, .int .u32 s.wh, .int .u32 s.ws, .int .u32 s.wn, .int .u32 nows, .int .u32 nown, .bool ow]) (pv_load_blk_whole 0 rfl rfl (by kernel_rfl) (by kernel_rfl)) ?_
     refine Rg.cl (some 30) 118 #[.tmp 29] #[143] (v := .bool (ow || (mayS ns n c 2))) rfl (fun w hw => writes_calls ((hT).keep (hw.at_ 1 rfl) (fun k hk => hw.lt 1 rfl hk)) hW (RowsAt.keep hG (hw.at_ 1 rfl) (fun k hk => hw.lt 1 rfl hk)) hgl) ?_
     refine Rg.p 31 (.unOp .not 4 (.tmp 30)) (pv_not (b := ow || (mayS ns n c 2)) rfl) ?_
     refine Rg.as 28 31 rfl ?_
     refine Rg.nx (fun _ _ h => h) [28,2] rfl ?_
     refine Ev.cd 28 rfl (fun h13 => ?_) (fun h13 => ?_)
     ·
      have ⟨h14, h15⟩ := or_f (not_t h13)
      refine Ev.sr 1 ?_
      refine Rg.ac 2 (.int .u32 13) ?_
      refine Rg.nx (fun _ _ h => h) [2] rfl ?_
      refine Ev.rt ?_
      refine At.via (Q := Q) hQ ?_
      refine At.ret1 rfl rfl rfl ?_
      exact fun w hw => ⟨(by unfold sizeSt; rw [h1, h4, h7, h10, h13]; rfl), hw.base_below 1 rfl⟩
     ·
      have h16 := not_f h13
      refine Ev.sk ?_
      refine At.nx (fun _ _ h => h) [2] rfl ?_
      refine Ev.sr 1 ?_
      refine Rg.ac 2 (.int .u32 0) ?_
      refine Rg.nx (fun _ _ h => h) [2] rfl ?_
      refine Ev.rt ?_
      refine At.via (Q := Q) hQ ?_
      refine At.ret1 rfl rfl rfl ?_
      exact fun w hw => ⟨(by unfold sizeSt; rw [h1, h4, h7, h10, h13]; rfl), hw.base_below 1 rfl⟩

noncomputable def stampsS (ns : List Node) (n : Int) (c : CredD) (s : SetD) (nows nown : Int) (ow : Bool) : Int := cond (((decide (s.rh = 2)) || (decide (s.wh = 2))) && (!ow))
  (1)
  (cond (((decide (s.rh = 1)) || (decide (s.wh = 1))) && (!(ow || (mayS ns n c 2))))
  (13)
  (0))

set_option maxHeartbeats 8000000 in
theorem stampsS_calls {n : Int} {s : SetD} {nows nown : Int} {ow : Bool} {p : Option Addr} {ns : List Node} {al : List Loc} {cap : Nat} {gen : Int} {w : World} (hT : NodesAt (Low w) w p ns al) (hW : NodesWf ns) {pg : Option Addr} {c : CredD} {cg : Nat} (hG : NumsAt (Low w) w pg c.groups) (hgl : c.groups.length ≤ 16777216) :
  Calls Try.prog 69 #[.agg #[.slice p ns.length cap, .int .u32 gen, .int .i64 n, .int .u32 c.user, .int .u32 c.group, .slice pg c.groups.length cg, .bool s.hm, .int .u32 s.mode, .bool s.hu, .int .u32 s.user, .bool s.hg, .int .u32 s.group, .bool s.hs, .int .u64 s.size, .int .u32 s.rh, .int .u32 s.rs, .int .u32 s.rn, .int .u32 s.wh, .int .u32 s.ws, .int .u32 s.wn, .int .u32 nows, .int .u32 nown, .bool ow]] w (Ret w (.int .u32 (stampsS ns n c s nows nown ow))) := by
 refine calls_ofQ (args := [_]) [base w (Low w)] Try.func69 (by kernel_rfl) (by kernel_rfl) (Heap.start w) ?_
 intro Q hQ
 refine Ev.sr 2 ?_
 refine Rg.bx 1 143 (.tmp 0) rfl fun b1 => ?_
 refine Rg.ac 2 (.int .u32 0) ?_
 refine Rg.nx (fun _ _ h => h) [2,1] rfl ?_
 refine Ev.sr 2 ?_
 refine Rg.ac 3 (.bool false) ?_
 refine Rg.ac 4 (.bool false) ?_
 refine Rg.nx (fun _ _ h => h) [4,3,2,1] rfl ?_
 refine Ev.sq ?_
 refine Ev.sr 3 ?_
 refine Rg.p 7 (.load 143 (.tmp 1)) (v := .agg #[.slice p ns.length cap, .int .u32 gen, .int .i64 n, .int .u32 c.user, .int .u32 c.group, .slice pg c.groups.length cg, .bool s.hm, .int .u32 s.mode, .bool s.hu, .int .u32 s.user, .bool s.hg, .int .u32 s.group, .bool s.hs, .int .u64 s.size, .int .u32 s.rh, .int .u32 s.rs, .int .u32 s.rn, .int .u32 s.wh, .int .u32 s.ws, .int .u32 s.wn, .int .u32 nows, .int .u32 nown, .bool ow]) (pv_load_blk_whole 0 rfl rfl (by kernel_rfl) (by kernel_rfl)) ?_
 refine Rg.cl (some 8) 117 #[.tmp 7] #[143] (v := .agg #[.int .u32 s.rh, .int .u32 s.rs, .int .u32 s.rn, .int .u32 s.wh, .int .u32 s.ws, .int .u32 s.wn]) rfl (fun w hw => times_calls (RowsAt.keep hG (hw.at_ 1 rfl) (fun k hk => hw.lt 1 rfl hk)) hgl) ?_
 refine Rg.mc 9 (.int .i64 0) ?_
 refine Rg.nx (fun _ _ h => h) [9,8,4,3,2,1] rfl ?_
 refine Ev.bk 0 ?_
 refine Ev.unroll 2 ?_
 refine Ev.sr 1 ?_
 refine Rg.p 10 (.binOp .lss 3 (.tmp 9) (.const (.int .i64 2)) 3) (pv_lss rfl rfl) ?_
 refine Rg.know 10 (b := decide (0 < 2)) (c := true) rfl (by decide) ?_
 refine Rg.nx (fun _ _ h => h) [10,9,8,4,3,2,1] rfl ?_
 refine Ev.sq ?_
 refine ev_cond_t (t := 10) (by kernel_rfl) rfl ?_
 refine Ev.sk ?_
 refine At.nx (fun _ _ h => h) [10,9,8,4,3,2,1] rfl ?_
 refine Ev.sq ?_
 refine Ev.bk 1 ?_
 refine Ev.sr 3 ?_
 refine Rg.p 11 (.index 201 (.tmp 8) (.tmp 9)) (v := .agg #[.int .u32 s.rh, .int .u32 s.rs, .int .u32 s.rn]) (pv_index_agg (e := 200) (sz := 3) (n := 2) (cs' := #[.int .u32 s.rh, .int .u32 s.rs, .int .u32 s.rn]) rfl rfl (by kernel_rfl) (by kernel_rfl) (by kernel_rfl) (by decide) (by decide) (by kernel_rfl)) ?_
 refine Rg.al 6 200 (.agg #[.int .u32 0, .int .u32 0, .int .u32 0]) fun b2 => ?_
 refine Rg.st 200 6 (.tmp 11) 0 #[.int .u32 s.rh, .int .u32 s.rs, .int .u32 s.rn] rfl rfl rfl ?_
 refine Rg.nx (fun _ _ h => h) [11,10,9,8,6,4,3,2,1] rfl ?_
 refine ev_quiet (n := 14) (E' := [(1, .pointer (some ⟨b1, 0, none⟩)), (2, .int .u32 0), (3, .bool (decide (s.rh = 2))), (4, .bool (decide (s.rh = 1))), (6, .pointer (some ⟨b2, 0, none⟩)), (8, .agg #[.int .u32 s.rh, .int .u32 s.rs, .int .u32 s.rn, .int .u32 s.wh, .int .u32 s.ws, .int .u32 s.wn]), (9, .int .i64 0), (10, .bool true), (11, .agg #[.int .u32 s.rh, .int .u32 s.rs, .int .u32 s.rn]), (12, .bool false), (13, .bool false), (14, .pointer (some ⟨b2, 0 + 0, none⟩)), (15, .int .u32 s.rh), (16, .bool (decide (s.rh = 2))), (17, .bool (decide (s.rh = 2))), (18, .bool false), (19, .bool false), (20, .pointer (some ⟨b2, 0 + 0, none⟩)), (21, .int .u32 s.rh), (22, .bool (decide (s.rh = 1))), (23, .bool (decide (s.rh = 1)))]) (by kernel_rfl) (by kernel_rfl) ?_ ?_
 ·
  refine Qg.pure (d := 12) (op := .move (.tmp 3)) (g := none) (v := .bool false) (by kernel_rfl) (by kernel_rfl) (pv_move rfl) ?_
  refine Qg.pure (d := 13) (op := .move (.tmp 12)) (g := none) (v := .bool false) (by kernel_rfl) (by kernel_rfl) (pv_move rfl) ?_
  refine Qg.pure (d := 14) (op := .fieldAddr 200 (.tmp 6) 0) (g := some (1, false)) (v := .pointer (some ⟨b2, 0 + 0, none⟩)) (by kernel_rfl) (by kernel_rfl) (pv_fieldAddr rfl (n := 0) (by kernel_rfl)) ?_
  refine Qg.pure (d := 15) (op := .load 57 (.tmp 14)) (g := some (1, false)) (v := .int .u32 s.rh) (by kernel_rfl) (by kernel_rfl) (pv_load_blk 0 rfl rfl (by kernel_rfl) rfl) ?_
  refine Qg.pure (d := 16) (op := .binOp .eql 57 (.tmp 15) (.const (.int .u32 2)) 57) (g := some (1, false)) (v := .bool (decide (s.rh = 2))) (by kernel_rfl) (by kernel_rfl) (pv_eql rfl rfl) ?_
  refine Qg.pure (d := 17) (op := .pick (.tmp 13) (.const (.bool true)) (.tmp 16)) (g := none) (v := .bool (decide (s.rh = 2))) (by kernel_rfl) (by kernel_rfl) (pv_pick_f rfl rfl) ?_
  refine Qg.pure (d := 18) (op := .move (.tmp 4)) (g := none) (v := .bool false) (by kernel_rfl) (by kernel_rfl) (pv_move rfl) ?_
  refine Qg.pure (d := 19) (op := .move (.tmp 18)) (g := none) (v := .bool false) (by kernel_rfl) (by kernel_rfl) (pv_move rfl) ?_
  refine Qg.pure (d := 20) (op := .fieldAddr 200 (.tmp 6) 0) (g := some (7, false)) (v := .pointer (some ⟨b2, 0 + 0, none⟩)) (by kernel_rfl) (by kernel_rfl) (pv_fieldAddr rfl (n := 0) (by kernel_rfl)) ?_
  refine Qg.pure (d := 21) (op := .load 57 (.tmp 20)) (g := some (7, false)) (v := .int .u32 s.rh) (by kernel_rfl) (by kernel_rfl) (pv_load_blk 0 rfl rfl (by kernel_rfl) rfl) ?_
  refine Qg.pure (d := 22) (op := .binOp .eql 57 (.tmp 21) (.const (.int .u32 1)) 57) (g := some (7, false)) (v := .bool (decide (s.rh = 1))) (by kernel_rfl) (by kernel_rfl) (pv_eql rfl rfl) ?_
  refine Qg.pure (d := 23) (op := .pick (.tmp 19) (.const (.bool true)) (.tmp 22)) (g := none) (v := .bool (decide (s.rh = 1))) (by kernel_rfl) (by kernel_rfl) (pv_pick_f rfl rfl) ?_
  refine Qg.pure (d := 3) (op := .assign (.tmp 17)) (g := none) (v := .bool (decide (s.rh = 2))) (by kernel_rfl) (by kernel_rfl) (pv_assign rfl) ?_
  refine Qg.pure (d := 4) (op := .assign (.tmp 23)) (g := none) (v := .bool (decide (s.rh = 1))) (by kernel_rfl) (by kernel_rfl) (pv_assign rfl) ?_
  exact Qg.mid (.cons rfl (.cons rfl (.cons rfl (.cons rfl (.cons rfl (.cons rfl (.cons rfl (.cons rfl (.cons rfl (.cons rfl (.cons rfl (.cons rfl (.cons rfl (.cons rfl (.cons rfl (.cons rfl (.cons rfl (.cons rfl (.cons rfl (.cons rfl (.cons rfl (.nil _)))))))))))))))))))))) rfl
 refine At.nx (fun _ _ h => h) [23,22,21,20,19,18,17,16,15,14,13,12,11,10,9,8,6,4,3,2,1] rfl ?_
 refine Ev.rg 2 ?_
 refine Rg.p 24 (.binOp .add 3 (.tmp 9) (.const (.int .i64 1)) 3) (v := .int .i64 1) (pv_addL (1) rfl rfl (by decide) (by kernel_rfl)) ?_
 refine Rg.mv 9 24 rfl ?_
 refine Rg.fin rfl ?_
 refine At.again 1 (fun _ _ h => h) [9,8,4,3,2,1] rfl ?_
 refine Ev.sr 1 ?_
 refine Rg.p 10 (.binOp .lss 3 (.tmp 9) (.const (.int .i64 2)) 3) (pv_lss rfl rfl) ?_
 refine Rg.know 10 (b := decide (1 < 2)) (c := true) rfl (by decide) ?_
 refine Rg.nx (fun _ _ h => h) [10,9,8,4,3,2,1] rfl ?_
 refine Ev.sq ?_
 refine ev_cond_t (t := 10) (by kernel_rfl) rfl ?_
 refine Ev.sk ?_
 refine At.nx (fun _ _ h => h) [10,9,8,4,3,2,1] rfl ?_
 refine Ev.sq ?_
 refine Ev.bk 1 ?_
 refine Ev.sr 3 ?_
 refine Rg.p 11 (.index 201 (.tmp 8) (.tmp 9)) (v := .agg #[.int .u32 s.wh, .int .u32 s.ws, .int .u32 s.wn]) (pv_index_agg (e := 200) (sz := 3) (n := 2) (cs' := #[.int .u32 s.wh, .int .u32 s.ws, .int .u32 s.wn]) rfl rfl (by kernel_rfl) (by kernel_rfl) (by kernel_rfl) (by decide) (by decide) (by kernel_rfl)) ?_
 refine Rg.al 6 200 (.agg #[.int .u32 0, .int .u32 0, .int .u32 0]) fun b3 => ?_
 refine Rg.st 200 6 (.tmp 11) 0 #[.int .u32 s.wh, .int .u32 s.ws, .int .u32 s.wn] rfl rfl rfl ?_
 refine Rg.nx (fun _ _ h => h) [11,10,9,8,6,4,3,2,1] rfl ?_
 refine ev_quiet (n := 14) (E' := [(1, .pointer (some ⟨b1, 0, none⟩)), (2, .int .u32 0), (3, .bool ((decide (s.rh = 2)) || (decide (s.wh = 2)))), (4, .bool ((decide (s.rh = 1)) || (decide (s.wh = 1)))), (6, .pointer (some ⟨b3, 0, none⟩)), (8, .agg #[.int .u32 s.rh, .int .u32 s.rs, .int .u32 s.rn, .int .u32 s.wh, .int .u32 s.ws, .int .u32 s.wn]), (9, .int .i64 1), (10, .bool true), (11, .agg #[.int .u32 s.wh, .int .u32 s.ws, .int .u32 s.wn]), (12, .bool (decide (s.rh = 2))), (13, .bool (decide (s.rh = 2))), (17, .bool ((decide (s.rh = 2)) || (decide (s.wh = 2)))), (18, .bool (decide (s.rh = 1))), (19, .bool (decide (s.rh = 1))), (23, .bool ((decide (s.rh = 1)) || (decide (s.wh = 1))))]) (by kernel_rfl) (by kernel_rfl) ?_ ?_
 ·
  refine Qg.pure (d := 12) (op := .move (.tmp 3)) (g := none) (v := .bool (decide (s.rh = 2))) (by kernel_rfl) (by kernel_rfl) (pv_move rfl) ?_
  refine Qg.pure (d := 13) (op := .move (.tmp 12)) (g := none) (v := .bool (decide (s.rh = 2))) (by kernel_rfl) (by kernel_rfl) (pv_move rfl) ?_
  refine Qg.split 6 [(17, .bool ((decide (s.rh = 2)) || (decide (s.wh = 2)))), (1, .pointer (some ⟨b1, 0, none⟩)), (2, .int .u32 0), (3, .bool (decide (s.rh = 2))), (4, .bool (decide (s.rh = 1))), (6, .pointer (some ⟨b3, 0, none⟩)), (8, .agg #[.int .u32 s.rh, .int .u32 s.rs, .int .u32 s.rn, .int .u32 s.wh, .int .u32 s.ws, .int .u32 s.wn]), (9, .int .i64 1), (10, .bool true), (11, .agg #[.int .u32 s.wh, .int .u32 s.ws, .int .u32 s.wn]), (12, .bool (decide (s.rh = 2))), (13, .bool (decide (s.rh = 2)))] [blk b3 (.cells #[.int .u32 s.wh, .int .u32 s.ws, .int .u32 s.wn] 200 (0, 0)), blk b2 (.cells #[.int .u32 s.rh, .int .u32 s.rs, .int .u32 s.rn] 200 (0, 0)), blk b1 (.cells #[.slice p ns.length cap, .int .u32 gen, .int .i64 n, .int .u32 c.user, .int .u32 c.group, .slice pg c.groups.length cg, .bool s.hm, .int .u32 s.mode, .bool s.hu, .int .u32 s.user, .bool s.hg, .int .u32 s.group, .bool s.hs, .int .u64 s.size, .int .u32 s.rh, .int .u32 s.rs, .int .u32 s.rn, .int .u32 s.wh, .int .u32 s.ws, .int .u32 s.wn, .int .u32 nows, .int .u32 nown, .bool ow] 143 (0, 0)), base w (Low w)] (s := 13) (g := decide (s.rh = 2)) rfl (by decide) (fun h1 => ?_) (fun h1 => ?_) ?_
  ·
   refine Qg.skips 5 (by kernel_rfl) ?_
   refine Qg.pure (d := 17) (op := .pick (.tmp 13) (.const (.bool true)) (.tmp 16)) (g := none) (v := .bool true) (by kernel_rfl) (by kernel_rfl) (pv_pick_t rfl rfl) ?_
   exact Qg.mid (.cons (or_of_t h1 rfl) (.cons (rfl) (.cons (rfl) (.cons (rfl) (.cons (rfl) (.cons (rfl) (.cons (rfl) (.cons (rfl) (.cons (rfl) (.cons (rfl) (.cons (rfl) (.cons ((congrArg (fun z => some (Value.bool z)) (Eq.symm h1))) (.nil _))))))))))))) rfl
  ·
   have h2 := of_decide_eq_false h1
   refine Qg.pure (d := 14) (op := .fieldAddr 200 (.tmp 6) 0) (g := some (1, false)) (v := .pointer (some ⟨b3, 0 + 0, none⟩)) (by kernel_rfl) (by kernel_rfl) (pv_fieldAddr rfl (n := 0) (by kernel_rfl)) ?_
   refine Qg.pure (d := 15) (op := .load 57 (.tmp 14)) (g := some (1, false)) (v := .int .u32 s.wh) (by kernel_rfl) (by kernel_rfl) (pv_load_blk 0 rfl rfl (by kernel_rfl) rfl) ?_
   refine Qg.pure (d := 16) (op := .binOp .eql 57 (.tmp 15) (.const (.int .u32 2)) 57) (g := some (1, false)) (v := .bool (decide (s.wh = 2))) (by kernel_rfl) (by kernel_rfl) (pv_eql rfl rfl) ?_
   refine Qg.pure (d := 17) (op := .pick (.tmp 13) (.const (.bool true)) (.tmp 16)) (g := none) (v := .bool (decide (s.wh = 2))) (by kernel_rfl) (by kernel_rfl) (pv_pick_f rfl rfl) ?_
   exact Qg.mid (.cons (or_of_f h1 rfl) (.cons (rfl) (.cons (rfl) (.cons (rfl) (.cons (rfl) (.cons (rfl) (.cons (rfl) (.cons (rfl) (.cons (rfl) (.cons (rfl) (.cons (rfl) (.cons ((congrArg (fun z => some (Value.bool z)) (Eq.symm h1))) (.nil _))))))))))))) rfl
  refine Qg.pure (d := 18) (op := .move (.tmp 4)) (g := none) (v := .bool (decide (s.rh = 1))) (by kernel_rfl) (by kernel_rfl) (pv_move rfl) ?_
  refine Qg.pure (d := 19) (op := .move (.tmp 18)) (g := none) (v := .bool (decide (s.rh = 1))) (by kernel_rfl) (by kernel_rfl) (pv_move rfl) ?_
  refine Qg.split 12 [(23, .bool ((decide (s.rh = 1)) || (decide (s.wh = 1)))), (1, .pointer (some ⟨b1, 0, none⟩)), (2, .int .u32 0), (3, .bool (decide (s.rh = 2))), (4, .bool (decide (s.rh = 1))), (6, .pointer (some ⟨b3, 0, none⟩)), (8, .agg #[.int .u32 s.rh, .int .u32 s.rs, .int .u32 s.rn, .int .u32 s.wh, .int .u32 s.ws, .int .u32 s.wn]), (9, .int .i64 1), (10, .bool true), (11, .agg #[.int .u32 s.wh, .int .u32 s.ws, .int .u32 s.wn]), (12, .bool (decide (s.rh = 2))), (13, .bool (decide (s.rh = 2))), (17, .bool ((decide (s.rh = 2)) || (decide (s.wh = 2)))), (18, .bool (decide (s.rh = 1))), (19, .bool (decide (s.rh = 1)))] [blk b3 (.cells #[.int .u32 s.wh, .int .u32 s.ws, .int .u32 s.wn] 200 (0, 0)), blk b2 (.cells #[.int .u32 s.rh, .int .u32 s.rs, .int .u32 s.rn] 200 (0, 0)), blk b1 (.cells #[.slice p ns.length cap, .int .u32 gen, .int .i64 n, .int .u32 c.user, .int .u32 c.group, .slice pg c.groups.length cg, .bool s.hm, .int .u32 s.mode, .bool s.hu, .int .u32 s.user, .bool s.hg, .int .u32 s.group, .bool s.hs, .int .u64 s.size, .int .u32 s.rh, .int .u32 s.rs, .int .u32 s.rn, .int .u32 s.wh, .int .u32 s.ws, .int .u32 s.wn, .int .u32 nows, .int .u32 nown, .bool ow] 143 (0, 0)), base w (Low w)] (s := 19) (g := decide (s.rh = 1)) rfl (by decide) (fun h3 => ?_) (fun h3 => ?_) ?_
  ·
   refine Qg.skips 11 (by kernel_rfl) ?_
   refine Qg.pure (d := 23) (op := .pick (.tmp 19) (.const (.bool true)) (.tmp 22)) (g := none) (v := .bool true) (by kernel_rfl) (by kernel_rfl) (pv_pick_t rfl rfl) ?_
   exact Qg.mid (.cons (or_of_t h3 rfl) (.cons (rfl) (.cons (rfl) (.cons (rfl) (.cons (rfl) (.cons (rfl) (.cons (rfl) (.cons (rfl) (.cons (rfl) (.cons (rfl) (.cons (rfl) (.cons (rfl) (.cons (rfl) (.cons (rfl) (.cons ((congrArg (fun z => some (Value.bool z)) (Eq.symm h3))) (.nil _)))))))))))))))) rfl
  ·
   have h4 := of_decide_eq_false h3
   refine Qg.pure (d := 20) (op := .fieldAddr 200 (.tmp 6) 0) (g := some (7, false)) (v := .pointer (some ⟨b3, 0 + 0, none⟩)) (by kernel_rfl) (by kernel_rfl) (pv_fieldAddr rfl (n := 0) (by kernel_rfl)) ?_
   refine Qg.pure (d := 21) (op := .load 57 (.tmp 20)) (g := some (7, false)) (v := .int .u32 s.wh) (by kernel_rfl) (by kernel_rfl) (pv_load_blk 0 rfl rfl (by kernel_rfl) rfl) ?_
   refine Qg.pure (d := 22) (op := .binOp .eql 57 (.tmp 21) (.const (.int .u32 1)) 57) (g := some (7, false)) (v := .bool (decide (s.wh = 1))) (by kernel_rfl) (by kernel_rfl) (pv_eql rfl rfl) ?_
   refine Qg.pure (d := 23) (op := .pick (.tmp 19) (.const (.bool true)) (.tmp 22)) (g := none) (v := .bool (decide (s.wh = 1))) (by kernel_rfl) (by kernel_rfl) (pv_pick_f rfl rfl) ?_
   exact Qg.mid (.cons (or_of_f h3 rfl) (.cons (rfl) (.cons (rfl) (.cons (rfl) (.cons (rfl) (.cons (rfl) (.cons (rfl) (.cons (rfl) (.cons (rfl) (.cons (rfl) (.cons (rfl) (.cons (rfl) (.cons (rfl) (.cons (rfl) (.cons ((congrArg (fun z => some (Value.bool z)) (Eq.symm h3))) (.nil _)))))))))))))))) rfl
  refine Qg.pure (d := 3) (op := .assign (.tmp 17)) (g := none) (v := .bool ((decide (s.rh = 2)) || (decide (s.wh = 2)))) (by kernel_rfl) (by kernel_rfl) (pv_assign rfl) ?_
  refine Qg.pure (d := 4) (op := .assign (.tmp 23)) (g := none) (v := .bool ((decide (s.rh = 1)) || (decide (s.wh = 1)))) (by kernel_rfl) (by kernel_rfl) (pv_assign rfl) ?_
  exact Qg.mid (.cons rfl (.cons rfl (.cons rfl (.cons rfl (.cons rfl (.cons rfl (.cons rfl (.cons rfl (.cons rfl (.cons rfl (.cons rfl (.cons rfl (.cons rfl (.cons rfl (.cons rfl (.nil _)))))))))))))))) rfl
 refine At.nx (fun _ _ h => h) [23,19,18,17,13,12,11,10,9,8,6,4,3,2,1] rfl ?_
 refine Ev.rg 2 ?_
 refine Rg.p 24 (.binOp .add 3 (.tmp 9) (.const (.int .i64 1)) 3) (v := .int .i64 2) (pv_addL (2) rfl rfl (by decide) (by kernel_rfl)) ?_
 refine Rg.mv 9 24 rfl ?_
 refine Rg.fin rfl ?_
 refine At.again 0 (fun _ _ h => h) [9,8,4,3,2,1] rfl ?_
 refine Ev.sr 1 ?_
 refine Rg.p 10 (.binOp .lss 3 (.tmp 9) (.const (.int .i64 2)) 3) (pv_lss rfl rfl) ?_
 refine Rg.know 10 (b := decide (2 < 2)) (c := false) rfl (by decide) ?_
 refine Rg.nx (fun _ _ h => h) [10,9,8,4,3,2,1] rfl ?_
 refine Ev.sq ?_
 refine ev_cond_f (t := 10) (by kernel_rfl) rfl ?_
 refine Ev.xt 0 ?_
 refine At.nx (fun _ _ h => h) [4,3,2,1] rfl ?_
 refine Ev.sq ?_
 refine Ev.bk 2 ?_
 refine Ev.sr 7 ?_
 refine Rg.mv 26 3 rfl ?_
 refine Rg.mv 27 26 rfl ?_
 refine Rg.ga 6 31 27 (!ow) rfl (fun h5 => ?_) (fun h5 => ?_) ?_
 ·
  refine Rg.pg 1 true 28 (.fieldAddr 143 (.tmp 1) 5) (pv_fieldAddr rfl (n := 22) (by kernel_rfl)) ?_
  refine Rg.pg 1 true 29 (.load 4 (.tmp 28)) (v := .bool ow) (pv_load_blk 2 rfl rfl (by kernel_rfl) rfl) ?_
  refine Rg.pg 1 true 30 (.unOp .not 4 (.tmp 29)) (pv_not (b := ow) rfl) ?_
  refine Rg.p 31 (.pick (.tmp 27) (.tmp 30) (.const (.bool false))) (pv_pick_t rfl rfl) ?_
  exact Rg.em 27 h5 (at_t h5) rfl rfl
 ·
  refine Rg.skips 5 (by kernel_rfl) ?_
  refine Rg.p 31 (.pick (.tmp 27) (.tmp 30) (.const (.bool false))) (pv_pick_f rfl rfl) ?_
  exact Rg.em 27 h5 (at_f h5) rfl rfl
 refine Rg.as 25 31 rfl ?_
 refine Rg.nx (fun _ _ h => h) [25,4,2,1] rfl ?_
 refine Ev.cd 25 rfl (fun h6 => ?_) (fun h6 => ?_)
 ·
  have ⟨h7, h8⟩ := and_t h6
  have h9 := not_t h8
  refine Ev.sr 1 ?_
  refine Rg.ac 2 (.int .u32 1) ?_
  refine Rg.nx (fun _ _ h => h) [2] rfl ?_
  refine Ev.rt ?_
  refine At.via (Q := Q) hQ ?_
  refine At.ret1 rfl rfl rfl ?_
  exact fun w hw => ⟨(by unfold stampsS; rw [h6]; rfl), hw.base_below 3 rfl⟩
 ·
  refine Ev.sr 7 ?_
  refine Rg.mv 33 4 rfl ?_
  refine Rg.mv 34 33 rfl ?_
  refine Rg.ga 6 38 34 (!(ow || (mayS ns n c 2))) rfl (fun h10 => ?_) (fun h10 => ?_) ?_
  ·
   refine Rg.pg 1 true 35 (.load 143 (.tmp 1)) (v := .agg #[.slice p ns.length cap, .int .u32 gen, .int .i64 n, .int .u32 c.user, .int .u32 c.group, .slice pg c.groups.length cg, .bool s.hm, .int .u32 s.mode, .bool s.hu, .int .u32 s.user, .bool s.hg, .int .u32 s.group, .bool s.hs, .int .u64 s.size, .int .u32 s.rh, .int .u32 s.rs, .int .u32 s.rn, .int .u32 s.wh, .int .u32 s.ws, .int .u32 s.wn, .int .u32 nows, .int .u32 nown, .bool ow]) (pv_load_blk_whole 2 rfl rfl (by kernel_rfl) (by kernel_rfl)) ?_
   refine rg_call (d := some 36) (f := 118) (xs := #[.tmp 35]) (ts := #[143]) (g := some (1, true)) (v := .bool (ow || (mayS ns n c 2))) (by kernel_rfl) (by kernel_rfl) (by kernel_rfl) rfl (fun w hw => writes_calls ((hT).keep (hw.at_ 3 rfl) (fun k hk => hw.lt 3 rfl hk)) hW (RowsAt.keep hG (hw.at_ 3 rfl) (fun k hk => hw.lt 3 rfl hk)) hgl) ?_
   refine Rg.pg 1 true 37 (.unOp .not 4 (.tmp 36)) (pv_not (b := ow || (mayS ns n c 2)) rfl) ?_
   refine Rg.p 38 (.pick (.tmp 34) (.tmp 37) (.const (.bool false))) (pv_pick_t rfl rfl) ?_
   exact Rg.em 34 h10 (at_t h10) rfl rfl
  ·
   refine Rg.skips 5 (by kernel_rfl) ?_
   refine Rg.p 38 (.pick (.tmp 34) (.tmp 37) (.const (.bool false))) (pv_pick_f rfl rfl) ?_
   exact Rg.em 34 h10 (at_f h10) rfl rfl
  refine Rg.as 32 38 rfl ?_
  refine Rg.nx (fun _ _ h => h) [32,2] rfl ?_
  refine Ev.cd 32 rfl (fun h11 => ?_) (fun h11 => ?_)
  ·
   have ⟨h12, h13⟩ := and_t h11
   have ⟨h14, h15⟩ := or_f (not_t h13)
   refine Ev.sr 1 ?_
   refine Rg.ac 2 (.int .u32 13) ?_
   refine Rg.nx (fun _ _ h => h) [2] rfl ?_
   refine Ev.rt ?_
   refine At.via (Q := Q) hQ ?_
   refine At.ret1 rfl rfl rfl ?_
   exact fun w hw => ⟨(by unfold stampsS; rw [h6, h11]; rfl), hw.base_below 3 rfl⟩
  ·
   refine Ev.sk ?_
   refine At.nx (fun _ _ h => h) [2] rfl ?_
   refine Ev.sr 1 ?_
   refine Rg.ac 2 (.int .u32 0) ?_
   refine Rg.nx (fun _ _ h => h) [2] rfl ?_
   refine Ev.rt ?_
   refine At.via (Q := Q) hQ ?_
   refine At.ret1 rfl rfl rfl ?_
   exact fun w hw => ⟨(by unfold stampsS; rw [h6, h11]; rfl), hw.base_below 3 rfl⟩

end Go.Proofs.Ytfhhggcdmgjbcaa.Sx
