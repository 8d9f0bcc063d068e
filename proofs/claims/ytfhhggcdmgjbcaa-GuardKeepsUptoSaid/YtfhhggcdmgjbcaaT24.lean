/-
  A part of the walk of the seat: laws of a small proof system, and contracts of functions, each proved. Conditions: as each theorem says.
-/
import Derived.Test.YtfhhggcdmgjbcaaProg
import Derived.Test.YtfhhggcdmgjbcaaCoreB
import Derived.Test.YtfhhggcdmgjbcaaT19
namespace Go.Proofs.Ytfhhggcdmgjbcaa.Sx
open Go Go.RowKit Go.Proofs

def idxU (xs : List Int) (v : Int) : Int := match (List.range xs.length).find? fun i => decide (v = xs.getD i 0) with | some i => (i : Int) | none => -1
theorem idxU_some {xs : List Int} {v : Int} {k : Nat} (hk : k < xs.length) (h : v = xs.getD k 0) (hno : ∀ i, i < k → v ≠ xs.getD i 0) : idxU xs v = k := by
  have : (List.range xs.length).find? (fun i => decide (v = xs.getD i 0)) = some k := by
    rw [List.find?_range_eq_some]
    exact ⟨by simpa using h, List.mem_range.2 hk, fun j hj => by simpa using hno j hj⟩
  unfold idxU; rw [this]
theorem idxU_none {xs : List Int} {v : Int} (hno : ∀ i, i < xs.length → v ≠ xs.getD i 0) : idxU xs v = -1 := by
  have : (List.range xs.length).find? (fun i => decide (v = xs.getD i 0)) = none := by
    rw [List.find?_eq_none]
    intro i hi
    simpa using hno i (List.mem_range.1 hi)
  unfold idxU; rw [this]

set_option maxHeartbeats 8000000 in
theorem indexU_calls {pg : Option Addr} {xs : List Int} {cg : Nat} {v : Int} {w : World} (hG : NumsAt (Low w) w pg xs) (hgl : xs.length ≤ 16777216) :
  Calls Try.prog 169 #[.slice pg xs.length cg, .int .u32 v] w (Ret w (.int .i64 (idxU xs v))) := by
 refine calls_ofQ (args := [_, _]) [base w (Low w)] Try.func169 (by kernel_rfl) (by kernel_rfl) (Heap.start w) ?_
 intro Q hQ
 refine Ev.sr 1 ?_
 refine Rg.ac 4 (.int .i64 0) ?_
 refine Rg.nx (fun _ _ h => h) [4,1,0] rfl ?_
 refine Ev.sq ?_
 refine Ev.sr 3 ?_
 refine Rg.mv 6 0 rfl ?_
 refine Rg.p 7 (.call { callee := .builtin .len, args := #[.tmp 6], argTypes := #[54] }) (pv_len_slice rfl (by kernel_rfl)) ?_
 refine Rg.mc 8 (.int .i64 0) ?_
 refine Rg.nx (fun _ _ h => h) [8,7,4,1,0] rfl ?_
 refine Ev.bk 0 ?_
 refine ev_loop (T := Nat) (fun k => [(0, .slice pg xs.length cg), (1, .int .u32 v), (4, .int .i64 0), (7, .int .i64 (xs.length : Int)), (8, .int .i64 (k : Int))]) (fun k => [base w (Low w)]) (fun k => k ≤ xs.length ∧ ∀ i_, i_ < k → v ≠ xs.getD i_ 0) (fun k => xs.length - k) 0 [0] (by kernel_rfl) ⟨Nat.zero_le _, fun i_ h_ => absurd h_ (Nat.not_lt_zero _)⟩ (.cons (rfl) (.cons (rfl) (.cons (rfl) (.cons (rfl) (.cons (rfl) (.nil _)))))) rfl (by decide) ?_
 rintro k ⟨(hk : k ≤ xs.length), (hno : ∀ i_, i_ < k → v ≠ xs.getD i_ 0)⟩
 show Ev _ _ [(0, .slice pg xs.length cg), (1, .int .u32 v), (4, .int .i64 0), (7, .int .i64 (xs.length : Int)), (8, .int .i64 (k : Int))] [base w (Low w)] _
 refine Ev.sr 1 ?_
 refine Rg.p 9 (.binOp .lss 3 (.tmp 8) (.tmp 7) 3) (pv_lss rfl rfl) ?_
 refine Rg.nx (fun _ _ h => h) [9,8,7,4,1,0] rfl ?_
 refine Ev.sq ?_
 refine Ev.cd 9 rfl (fun h1 => ?_) (fun h1 => ?_)
 ·
  have h2 := of_decide_eq_true h1
  refine Ev.sk ?_
  refine At.nx (fun _ _ h => h) [9,8,7,4,1,0] rfl ?_
  refine Ev.sq ?_
  refine Ev.bk 1 ?_
  refine Ev.sr 2 ?_
  refine Rg.mv 10 8 rfl ?_
  refine Rg.as 5 10 rfl ?_
  refine Rg.nx (fun _ _ h => h) [10,9,8,7,5,4,1,0] rfl ?_
  refine Ev.sr 6 ?_
  refine Rg.mv 11 1 rfl ?_
  refine Rg.mv 12 0 rfl ?_
  refine Rg.mv 13 5 rfl ?_
  have ⟨q1, o2, hp3⟩ := hG.adr (by omega)
  refine Rg.p 14 (.indexAddr 54 (.tmp 12) (.tmp 13)) (v := .pointer (some ⟨q1, o2 + ((k : Int)).toNat * 1, none⟩)) (pv_indexAddr' rfl hp3 rfl (e := 23) (sz := 1) (by kernel_rfl) (by omega) (by omega)) ?_
  refine Rg.p 15 (.load 23 (.tmp 14)) (v := .int .u32 (xs.getD k 0)) (pv_load rfl (by kernel_rfl) (fun w hw => ((hG).keep (hw.at_ 0 rfl) (fun _ h => h)).cell _ _ hp3 _ (by omega) 0 (by decide))) ?_
  refine Rg.p 16 (.binOp .eql 23 (.tmp 11) (.tmp 15) 23) (pv_eql rfl rfl) ?_
  refine Rg.nx (fun _ _ h => h) [16,15,14,13,12,11,10,9,8,7,5,4,1,0] rfl ?_
  refine Ev.cd 16 rfl (fun h3 => ?_) (fun h3 => ?_)
  ·
   have h4 := of_decide_eq_true h3
   refine Ev.sr 2 ?_
   refine Rg.mv 17 5 rfl ?_
   refine Rg.as 4 17 rfl ?_
   refine Rg.nx (fun _ _ h => h) [17,16,15,14,13,12,11,10,9,8,7,5,4,1,0] rfl ?_
   refine Ev.rt ?_
   refine At.via (Q := Q) hQ ?_
   refine At.ret1 rfl rfl rfl ?_
   exact fun w hw => ⟨(by rw [idxU_some (k := k) (by omega) (of_decide_eq_true h3) hno]), hw.base_below 0 rfl⟩
  ·
   have h5 := of_decide_eq_false h3
   refine Ev.sk ?_
   refine At.nx (fun _ _ h => h) [16,15,14,13,12,11,10,9,8,7,5,4,1,0] rfl ?_
   refine Ev.rg 2 ?_
   refine Rg.p 18 (.binOp .add 3 (.tmp 8) (.const (.int .i64 1)) 3) (pv_addb rfl rfl (in_i64 (by omega) (by omega))) ?_
   refine Rg.mv 8 18 rfl ?_
   refine Rg.fin rfl ?_
   refine At.round (fun _ _ h => h) (k + 1) [0] ⟨(by omega), (fun i_ h_ => by rcases Nat.lt_succ_iff_lt_or_eq.1 h_ with h1_ | h1_; exact hno i_ h1_; subst h1_; exact of_decide_eq_false h3)⟩ (by show xs.length - (k + 1) < xs.length - k; omega) (.cons (rfl) (.cons (rfl) (.cons (rfl) (.cons (rfl) (.cons (rfl) (.nil _)))))) rfl (by decide)
 ·
  have h6 := of_decide_eq_false h1
  refine Ev.xt 0 ?_
  refine At.nx (fun _ _ h => h) [4] rfl ?_
  refine Ev.sr 1 ?_
  refine Rg.ac 4 (.int .i64 (-1)) ?_
  refine Rg.nx (fun _ _ h => h) [4] rfl ?_
  refine Ev.rt ?_
  refine At.via (Q := Q) hQ ?_
  refine At.ret1 rfl rfl rfl ?_
  exact fun w hw => ⟨(by rw [idxU_none (fun i_ h_ => hno i_ (by omega))]), hw.base_below 0 rfl⟩

set_option maxHeartbeats 8000000 in
theorem containsU_calls {pg : Option Addr} {xs : List Int} {cg : Nat} {v : Int} {w : World} (hG : NumsAt (Low w) w pg xs) (hgl : xs.length ≤ 16777216) :
  Calls Try.prog 145 #[.slice pg xs.length cg, .int .u32 v] w (Ret w (.bool (decide (0 ≤ idxU xs v)))) := by
 refine calls_ofQ (args := [_, _]) [base w (Low w)] Try.func145 (by kernel_rfl) (by kernel_rfl) (Heap.start w) ?_
 intro Q hQ
 refine Ev.sr 1 ?_
 refine Rg.ac 4 (.bool false) ?_
 refine Rg.nx (fun _ _ h => h) [4,1,0] rfl ?_
 refine Ev.sr 5 ?_
 refine Rg.mv 5 0 rfl ?_
 refine Rg.mv 6 1 rfl ?_
 refine Rg.cl (some 7) 169 #[.tmp 5, .tmp 6] #[54, 23] (v := .int .i64 (idxU xs v)) rfl (fun w hw => indexU_calls (RowsAt.keep hG (hw.at_ 0 rfl) (fun k hk => hw.lt 0 rfl hk)) hgl) ?_
 refine Rg.p 8 (.binOp .geq 3 (.tmp 7) (.const (.int .i64 0)) 3) (pv_geq rfl rfl) ?_
 refine Rg.as 4 8 rfl ?_
 refine Rg.nx (fun _ _ h => h) [4] rfl ?_
 refine Ev.rt ?_
 refine At.via (Q := Q) hQ ?_
 refine At.ret1 rfl rfl rfl ?_
 exact fun w hw => ⟨rfl, hw.base_below 0 rfl⟩

def inS (c : CredD) (v : Int) : Bool := decide (c.group = v) || decide (0 ≤ idxU c.groups v)

set_option maxHeartbeats 8000000 in
theorem in_calls {v : Int} {pg : Option Addr} {c : CredD} {cg : Nat} {w : World} (hG : NumsAt (Low w) w pg c.groups) (hgl : c.groups.length ≤ 16777216) :
  Calls Try.prog 100 #[.agg #[.int .u32 c.user, .int .u32 c.group, .slice pg c.groups.length cg], .int .u32 v] w (Ret w (.bool (inS c v))) := by
 refine calls_ofQ (args := [_, _]) [base w (Low w)] Try.func100 (by kernel_rfl) (by kernel_rfl) (Heap.start w) ?_
 intro Q hQ
 refine Ev.sr 2 ?_
 refine Rg.bx 2 56 (.tmp 0) rfl fun b1 => ?_
 refine Rg.ac 4 (.bool false) ?_
 refine Rg.nx (fun _ _ h => h) [4,2,1] rfl ?_
 refine Ev.sr 11 ?_
 refine Rg.fa 5 56 2 1 1 rfl ?_
 refine Rg.ld 6 23 5 0 rfl rfl rfl ?_
 refine Rg.mv 7 1 rfl ?_
 refine Rg.p 8 (.binOp .eql 23 (.tmp 6) (.tmp 7) 23) (pv_eql rfl rfl) ?_
 refine Rg.mv 9 8 rfl ?_
 refine Rg.go 10 14 9 (decide (0 ≤ idxU c.groups v)) rfl (fun h1 => ?_) (fun h1 => ?_) ?_
 ·
  refine Rg.skips 9 (by kernel_rfl) ?_
  refine Rg.p 14 (.pick (.tmp 9) (.const (.bool true)) (.tmp 13)) (pv_pick_t rfl rfl) ?_
  exact Rg.em 9 h1 (ot_t h1) rfl rfl
 ·
  have h2 := of_decide_eq_false h1
  refine Rg.pg 4 false 10 (.fieldAddr 56 (.tmp 2) 2) (pv_fieldAddr rfl (n := 2) (by kernel_rfl)) ?_
  refine Rg.pg 4 false 11 (.load 54 (.tmp 10)) (v := .slice pg c.groups.length cg) (pv_load_blk 0 rfl rfl (by kernel_rfl) rfl) ?_
  refine Rg.pg 4 false 12 (.move (.tmp 1)) (pv_move rfl) ?_
  refine rg_call (d := some 13) (f := 145) (xs := #[.tmp 11, .tmp 12]) (ts := #[54, 23]) (g := some (4, false)) (v := .bool (decide (0 ≤ idxU c.groups v))) (by kernel_rfl) (by kernel_rfl) (by kernel_rfl) rfl (fun w hw => containsU_calls (RowsAt.keep hG (hw.at_ 1 rfl) (fun k hk => hw.lt 1 rfl hk)) hgl) ?_
  refine Rg.p 14 (.pick (.tmp 9) (.const (.bool true)) (.tmp 13)) (pv_pick_f rfl rfl) ?_
  exact Rg.em 9 h1 (ot_f h1) rfl rfl
 refine Rg.as 4 14 rfl ?_
 refine Rg.nx (fun _ _ h => h) [4] rfl ?_
 refine Ev.rt ?_
 refine At.via (Q := Q) hQ ?_
 refine At.ret1 rfl rfl rfl ?_
 exact fun w hw => ⟨rfl, hw.base_below 1 rfl⟩

noncomputable def mayS (ns : List Node) (n : Int) (c : CredD) (what : Int) : Bool := cond (((!(thereS ns n)) || (decide (what < 1))) || (decide (7 < what)))
  (false)
  (cond (decide (c.user = 0))
  (((decide ((bitsI .and .u32 what 1) = 0)) || (!(decide ((attrKind ns n) = 1)))) || (!(decide ((bitsI .and .u32 (attrMode ns n) 73) = 0))))
  (cond (decide (c.user = (attrUser ns n)))
  (decide ((bitsI .and .u32 (shrI .u32 (attrMode ns n) ((0 + 3) + 3)) what) = what))
  (cond (inS c (attrGroup ns n))
  (decide ((bitsI .and .u32 (shrI .u32 (attrMode ns n) (0 + 3)) what) = what))
  (decide ((bitsI .and .u32 (shrI .u32 (attrMode ns n) 0) what) = what)))))

set_option maxHeartbeats 8000000 in
theorem mayS_calls {n what : Int} {p : Option Addr} {ns : List Node} {al : List Loc} {cap : Nat} {gen : Int} {w : World} (hT : NodesAt (Low w) w p ns al) (hW : NodesWf ns) {pg : Option Addr} {c : CredD} {cg : Nat} (hG : NumsAt (Low w) w pg c.groups) (hgl : c.groups.length ≤ 16777216) :
  Calls Try.prog 39 #[.agg #[.slice p ns.length cap, .int .u32 gen], .int .i64 n, .agg #[.int .u32 c.user, .int .u32 c.group, .slice pg c.groups.length cg], .int .u32 what] w (Ret w (.bool (mayS ns n c what))) := by
 refine calls_ofQ (args := [_, _, _, _]) [base w (Low w)] Try.func39 (by kernel_rfl) (by kernel_rfl) (Heap.start w) ?_
 intro Q hQ
 refine Ev.sr 3 ?_
 refine Rg.bx 4 25 (.tmp 0) rfl fun b1 => ?_
 refine Rg.bx 6 56 (.tmp 2) rfl fun b2 => ?_
 refine Rg.ac 8 (.bool false) ?_
 refine Rg.nx (fun _ _ h => h) [8,6,4,3,1] rfl ?_
 refine Ev.sr 9 ?_
 refine Rg.p 13 (.load 25 (.tmp 4)) (v := .agg #[.slice p ns.length cap, .int .u32 gen]) (pv_load_blk_whole 1 rfl rfl (by kernel_rfl) (by kernel_rfl)) ?_
 refine Rg.mv 14 1 rfl ?_
 refine Rg.cl (some 15) 18 #[.tmp 13, .tmp 14] #[25, 3] (v := .tuple #[.agg (attrsS ns n), .bool (thereS ns n)]) rfl (fun w hw => Attrs_calls ((hT).keep (hw.at_ 2 rfl) (fun k hk => hw.lt 2 rfl hk)) hW) ?_
 refine Rg.mv 12 15 rfl ?_
 refine Rg.ex 16 12 0 rfl rfl ?_
 refine Rg.ex 17 12 1 rfl rfl ?_
 refine Rg.al 9 38 (.agg #[.int .u32 0, .int .u32 0, .int .u32 0, .int .u32 0, .int .u32 0, .int .u64 0, .int .u64 0, .int .u64 0, .int .u32 0, .int .u32 0, .int .u32 0, .int .u32 0, .int .u32 0, .int .u32 0]) fun b3 => ?_
 refine rg_store (t := 38) (x := .tmp 9) (y := .tmp 16) (g := none) (cs' := (attrsS ns n)) 0 (by kernel_rfl) (by kernel_rfl) rfl rfl rfl (by show szT Try.prog 38 = some ((attrsS ns n)).size; rw [attrs_size]; kernel_rfl) (by show 0 + ((attrsS ns n)).size ≤ _; rw [attrs_size]; decide) (attrs_one _ _) (attrs_put _ _ _ rfl) ?_
 refine Rg.as 10 17 rfl ?_
 refine Rg.nx (fun _ _ h => h) [10,9,8,6,3] rfl ?_
 refine Ev.sq ?_
 refine Ev.sr 10 ?_
 refine Rg.mv 18 10 rfl ?_
 refine Rg.p 19 (.unOp .not 4 (.tmp 18)) (pv_not (b := thereS ns n) rfl) ?_
 refine Rg.mv 20 19 rfl ?_
 refine Rg.go 6 23 20 (decide (what < 1)) rfl (fun h1 => ?_) (fun h1 => ?_) ?_
 ·
  refine Rg.skips 5 (by kernel_rfl) ?_
  refine Rg.p 23 (.pick (.tmp 20) (.const (.bool true)) (.tmp 22)) (pv_pick_t rfl rfl) ?_
  exact Rg.em 20 h1 (ot_t h1) rfl rfl
 ·
  have h2 := not_f h1
  have ⟨h3, h4, h5⟩ := thereS_t h2
  refine Rg.pg 2 false 21 (.move (.tmp 3)) (pv_move rfl) ?_
  refine Rg.pg 2 false 22 (.binOp .lss 23 (.tmp 21) (.const (.int .u32 1)) 23) (pv_lss rfl rfl) ?_
  refine Rg.p 23 (.pick (.tmp 20) (.const (.bool true)) (.tmp 22)) (pv_pick_f rfl rfl) ?_
  exact Rg.em 20 h1 (ot_f h1) rfl rfl
 refine Rg.mv 24 23 rfl ?_
 refine Rg.go 10 27 24 (decide (7 < what)) rfl (fun h6 => ?_) (fun h6 => ?_) ?_
 ·
  refine Rg.skips 9 (by kernel_rfl) ?_
  refine Rg.p 27 (.pick (.tmp 24) (.const (.bool true)) (.tmp 26)) (pv_pick_t rfl rfl) ?_
  exact Rg.em 24 h6 (ot_t h6) rfl rfl
 ·
  have ⟨h7, h8⟩ := or_f h6
  have h9 := not_f h7
  have ⟨h10, h11, h12⟩ := thereS_t h9
  have h13 := of_decide_eq_false h8
  refine Rg.pg 6 false 25 (.move (.tmp 3)) (pv_move rfl) ?_
  refine Rg.pg 6 false 26 (.binOp .gtr 23 (.tmp 25) (.const (.int .u32 7)) 23) (pv_gtr rfl rfl) ?_
  refine Rg.p 27 (.pick (.tmp 24) (.const (.bool true)) (.tmp 26)) (pv_pick_f rfl rfl) ?_
  exact Rg.em 24 h6 (ot_f h6) rfl rfl
 refine Rg.nx (fun _ _ h => h) [27,9,8,6,3] rfl ?_
 refine Ev.cd 27 rfl (fun h14 => ?_) (fun h14 => ?_)
 ·
  refine Ev.sr 1 ?_
  refine Rg.ac 8 (.bool false) ?_
  refine Rg.nx (fun _ _ h => h) [9,8,6,3] rfl ?_
  refine Ev.rt ?_
  refine At.via (Q := Q) hQ ?_
  refine At.ret1 rfl rfl rfl ?_
  exact fun w hw => ⟨(by unfold mayS; rw [h14]; rfl), hw.base_below 3 rfl⟩
 ·
  have ⟨h15, h16⟩ := or_f h14
  have ⟨h17, h18⟩ := or_f h15
  have h19 := not_f h17
  have ⟨h20, h21, h22⟩ := thereS_t h19
  have h23 := of_decide_eq_false h18
  have h24 := of_decide_eq_false h16
  refine Ev.sk ?_
  refine At.nx (fun _ _ h => h) [9,8,6,3] rfl ?_
  refine Ev.sq ?_
  refine Ev.sr 3 ?_
  refine Rg.fa 28 56 6 0 0 rfl ?_
  refine Rg.ld 29 23 28 1 rfl rfl rfl ?_
  refine Rg.p 30 (.binOp .eql 23 (.tmp 29) (.const (.int .u32 0)) 23) (pv_eql rfl rfl) ?_
  refine Rg.nx (fun _ _ h => h) [30,9,8,6,3] rfl ?_
  refine Ev.cd 30 rfl (fun h25 => ?_) (fun h25 => ?_)
  ·
   have h26 := of_decide_eq_true h25
   refine Ev.sr 15 ?_
   refine Rg.mv 31 3 rfl ?_
   refine Rg.p 32 (.binOp .and 23 (.tmp 31) (.const (.int .u32 1)) 23) (pv_bits rfl rfl rfl) ?_
   refine Rg.p 33 (.binOp .eql 23 (.tmp 32) (.const (.int .u32 0)) 23) (pv_eql rfl rfl) ?_
   refine Rg.mv 34 33 rfl ?_
   refine Rg.go 8 38 34 (!(decide ((attrKind ns n) = 1))) rfl (fun h27 => ?_) (fun h27 => ?_) ?_
   ·
    refine Rg.skips 7 (by kernel_rfl) ?_
    refine Rg.p 38 (.pick (.tmp 34) (.const (.bool true)) (.tmp 37)) (pv_pick_t rfl rfl) ?_
    exact Rg.em 34 h27 (ot_t h27) rfl rfl
   ·
    have h28 := of_decide_eq_false h27
    refine Rg.pg 3 false 35 (.fieldAddr 38 (.tmp 9) 0) (pv_fieldAddr rfl (n := 0) (by kernel_rfl)) ?_
    refine Rg.pg 3 false 36 (.load 33 (.tmp 35)) (v := .int .u32 (attrKind ns n)) (pv_load_blk 0 rfl rfl (by kernel_rfl) (attrs_0 _ _)) ?_
    refine Rg.pg 3 false 37 (.binOp .neq 33 (.tmp 36) (.const (.int .u32 1)) 33) (pv_neq rfl rfl) ?_
    refine Rg.p 38 (.pick (.tmp 34) (.const (.bool true)) (.tmp 37)) (pv_pick_f rfl rfl) ?_
    exact Rg.em 34 h27 (ot_f h27) rfl rfl
   refine Rg.mv 39 38 rfl ?_
   refine Rg.go 14 44 39 (!(decide ((bitsI .and .u32 (attrMode ns n) 73) = 0))) rfl (fun h29 => ?_) (fun h29 => ?_) ?_
   ·
    refine Rg.skips 13 (by kernel_rfl) ?_
    refine Rg.p 44 (.pick (.tmp 39) (.const (.bool true)) (.tmp 43)) (pv_pick_t rfl rfl) ?_
    exact Rg.em 39 h29 (ot_t h29) rfl rfl
   ·
    have ⟨h30, h31⟩ := or_f h29
    have h32 := of_decide_eq_false h30
    have h33 := of_decide_eq_true (not_f h31)
    refine Rg.pg 8 false 40 (.fieldAddr 38 (.tmp 9) 1) (pv_fieldAddr rfl (n := 1) (by kernel_rfl)) ?_
    refine Rg.pg 8 false 41 (.load 23 (.tmp 40)) (v := .int .u32 (attrMode ns n)) (pv_load_blk 0 rfl rfl (by kernel_rfl) (attrs_1 _ _)) ?_
    refine Rg.pg 8 false 42 (.binOp .and 23 (.tmp 41) (.const (.int .u32 73)) 23) (pv_bits rfl rfl rfl) ?_
    refine Rg.pg 8 false 43 (.binOp .neq 23 (.tmp 42) (.const (.int .u32 0)) 23) (pv_neq rfl rfl) ?_
    refine Rg.p 44 (.pick (.tmp 39) (.const (.bool true)) (.tmp 43)) (pv_pick_f rfl rfl) ?_
    exact Rg.em 39 h29 (ot_f h29) rfl rfl
   refine Rg.as 8 44 rfl ?_
   refine Rg.nx (fun _ _ h => h) [9,8,6,3] rfl ?_
   refine Ev.rt ?_
   refine At.via (Q := Q) hQ ?_
   refine At.ret1 rfl rfl rfl ?_
   exact fun w hw => ⟨(by unfold mayS; rw [h14, h25]; rfl), hw.base_below 3 rfl⟩
  ·
   have h34 := of_decide_eq_false h25
   refine Ev.sk ?_
   refine At.nx (fun _ _ h => h) [9,8,6,3] rfl ?_
   refine Ev.sr 1 ?_
   refine Rg.ac 11 (.int .i64 0) ?_
   refine Rg.nx (fun _ _ h => h) [11,9,8,6,3] rfl ?_
   refine Ev.sq ?_
   refine Ev.bk 0 ?_
   refine Ev.sq ?_
   refine Ev.bk 2 ?_
   refine Ev.sq ?_
   refine Ev.bk 1 ?_
   refine Ev.sq ?_
   refine Ev.sq ?_
   refine Ev.sr 6 ?_
   refine Rg.fa 46 56 6 0 0 rfl ?_
   refine Rg.ld 47 23 46 1 rfl rfl rfl ?_
   refine Rg.fa 48 38 9 3 3 rfl ?_
   refine Rg.p 49 (.load 23 (.tmp 48)) (v := .int .u32 (attrUser ns n)) (pv_load_blk 0 rfl rfl (by kernel_rfl) (attrs_3 _ _)) ?_
   refine Rg.p 50 (.binOp .eql 23 (.tmp 47) (.tmp 49) 23) (pv_eql rfl rfl) ?_
   refine Rg.as 45 50 rfl ?_
   refine Rg.nx (fun _ _ h => h) [45,11,9,8,6,3] rfl ?_
   refine Ev.cd 45 rfl (fun h35 => ?_) (fun h35 => ?_)
   ·
    have h36 := of_decide_eq_true h35
    refine Ev.xt 1 ?_
    refine At.nx (fun _ _ h => h) [11,9,8,3] rfl ?_
    refine Ev.rg 3 ?_
    refine Rg.mv 56 11 rfl ?_
    refine Rg.p 57 (.binOp .add 3 (.tmp 56) (.const (.int .i64 3)) 3) (pv_addb rfl rfl (in_i64 (by omega) (by omega))) ?_
    refine Rg.as 11 57 rfl ?_
    refine Rg.nx (fun _ _ h => h) [11,9,8,3] rfl ?_
    refine Ev.sr 3 ?_
    refine Rg.mv 58 11 rfl ?_
    refine Rg.p 59 (.binOp .add 3 (.tmp 58) (.const (.int .i64 3)) 3) (pv_addb rfl rfl (in_i64 (by omega) (by omega))) ?_
    refine Rg.as 11 59 rfl ?_
    refine Rg.nx (fun _ _ h => h) [11,9,8,3] rfl ?_
    refine Ev.xt 0 ?_
    refine At.nx (fun _ _ h => h) [11,9,8,3] rfl ?_
    refine Ev.sr 9 ?_
    refine Rg.fa 60 38 9 1 1 rfl ?_
    refine Rg.p 61 (.load 23 (.tmp 60)) (v := .int .u32 (attrMode ns n)) (pv_load_blk 0 rfl rfl (by kernel_rfl) (attrs_1 _ _)) ?_
    refine Rg.mv 62 11 rfl ?_
    refine Rg.p 63 (.binOp .shr 23 (.tmp 61) (.tmp 62) 3) (pv_shr rfl rfl (by omega)) ?_
    refine Rg.mv 64 3 rfl ?_
    refine Rg.p 65 (.binOp .and 23 (.tmp 63) (.tmp 64) 23) (pv_bits rfl rfl rfl) ?_
    refine Rg.mv 66 3 rfl ?_
    refine Rg.p 67 (.binOp .eql 23 (.tmp 65) (.tmp 66) 23) (pv_eql rfl rfl) ?_
    refine Rg.as 8 67 rfl ?_
    refine Rg.nx (fun _ _ h => h) [8] rfl ?_
    refine Ev.rt ?_
    refine At.via (Q := Q) hQ ?_
    refine At.ret1 rfl rfl rfl ?_
    exact fun w hw => ⟨(by unfold mayS; rw [h14, h25, h35]; rfl), hw.base_below 3 rfl⟩
   ·
    have h37 := of_decide_eq_false h35
    refine Ev.sk ?_
    refine At.nx (fun _ _ h => h) [11,9,8,6,3] rfl ?_
    refine Ev.sr 5 ?_
    refine Rg.p 52 (.load 56 (.tmp 6)) (v := .agg #[.int .u32 c.user, .int .u32 c.group, .slice pg c.groups.length cg]) (pv_load_blk_whole 1 rfl rfl (by kernel_rfl) (by kernel_rfl)) ?_
    refine Rg.fa 53 38 9 4 4 rfl ?_
    refine Rg.p 54 (.load 23 (.tmp 53)) (v := .int .u32 (attrGroup ns n)) (pv_load_blk 0 rfl rfl (by kernel_rfl) (attrs_4 _ _)) ?_
    refine Rg.cl (some 55) 100 #[.tmp 52, .tmp 54] #[56, 23] (v := .bool (inS c (attrGroup ns n))) rfl (fun w hw => in_calls (RowsAt.keep hG (hw.at_ 3 rfl) (fun k hk => hw.lt 3 rfl hk)) hgl) ?_
    refine Rg.as 51 55 rfl ?_
    refine Rg.nx (fun _ _ h => h) [51,11,9,8,3] rfl ?_
    refine Ev.cd 51 rfl (fun h38 => ?_) (fun h38 => ?_)
    ·
     refine Ev.xt 2 ?_
     refine At.nx (fun _ _ h => h) [11,9,8,3] rfl ?_
     refine Ev.sr 3 ?_
     refine Rg.mv 58 11 rfl ?_
     refine Rg.p 59 (.binOp .add 3 (.tmp 58) (.const (.int .i64 3)) 3) (pv_addb rfl rfl (in_i64 (by omega) (by omega))) ?_
     refine Rg.as 11 59 rfl ?_
     refine Rg.nx (fun _ _ h => h) [11,9,8,3] rfl ?_
     refine Ev.xt 0 ?_
     refine At.nx (fun _ _ h => h) [11,9,8,3] rfl ?_
     refine Ev.sr 9 ?_
     refine Rg.fa 60 38 9 1 1 rfl ?_
     refine Rg.p 61 (.load 23 (.tmp 60)) (v := .int .u32 (attrMode ns n)) (pv_load_blk 0 rfl rfl (by kernel_rfl) (attrs_1 _ _)) ?_
     refine Rg.mv 62 11 rfl ?_
     refine Rg.p 63 (.binOp .shr 23 (.tmp 61) (.tmp 62) 3) (pv_shr rfl rfl (by omega)) ?_
     refine Rg.mv 64 3 rfl ?_
     refine Rg.p 65 (.binOp .and 23 (.tmp 63) (.tmp 64) 23) (pv_bits rfl rfl rfl) ?_
     refine Rg.mv 66 3 rfl ?_
     refine Rg.p 67 (.binOp .eql 23 (.tmp 65) (.tmp 66) 23) (pv_eql rfl rfl) ?_
     refine Rg.as 8 67 rfl ?_
     refine Rg.nx (fun _ _ h => h) [8] rfl ?_
     refine Ev.rt ?_
     refine At.via (Q := Q) hQ ?_
     refine At.ret1 rfl rfl rfl ?_
     exact fun w hw => ⟨(by unfold mayS; rw [h14, h25, h35, h38]; rfl), hw.base_below 3 rfl⟩
    ·
     refine Ev.sk ?_
     refine At.nx (fun _ _ h => h) [11,9,8,3] rfl ?_
     refine Ev.xt 0 ?_
     refine At.nx (fun _ _ h => h) [11,9,8,3] rfl ?_
     refine Ev.sr 9 ?_
     refine Rg.fa 60 38 9 1 1 rfl ?_
     refine Rg.p 61 (.load 23 (.tmp 60)) (v := .int .u32 (attrMode ns n)) (pv_load_blk 0 rfl rfl (by kernel_rfl) (attrs_1 _ _)) ?_
     refine Rg.mv 62 11 rfl ?_
     refine Rg.p 63 (.binOp .shr 23 (.tmp 61) (.tmp 62) 3) (pv_shr rfl rfl (by omega)) ?_
     refine Rg.mv 64 3 rfl ?_
     refine Rg.p 65 (.binOp .and 23 (.tmp 63) (.tmp 64) 23) (pv_bits rfl rfl rfl) ?_
     refine Rg.mv 66 3 rfl ?_
     refine Rg.p 67 (.binOp .eql 23 (.tmp 65) (.tmp 66) 23) (pv_eql rfl rfl) ?_
     refine Rg.as 8 67 rfl ?_
     refine Rg.nx (fun _ _ h => h) [8] rfl ?_
     refine Ev.rt ?_
     refine At.via (Q := Q) hQ ?_
     refine At.ret1 rfl rfl rfl ?_
     exact fun w hw => ⟨(by unfold mayS; rw [h14, h25, h35, h38]; rfl), hw.base_below 3 rfl⟩

noncomputable def ownsS (ns : List Node) (n : Int) (c : CredD) : Bool := (thereS ns n) && ((decide (c.user = 0)) || (decide (c.user = (attrUser ns n))))

set_option maxHeartbeats 8000000 in
theorem ownsS_calls {n : Int} {p : Option Addr} {ns : List Node} {al : List Loc} {cap : Nat} {gen : Int} {w : World} (hT : NodesAt (Low w) w p ns al) (hW : NodesWf ns) {pg : Option Addr} {c : CredD} {cg : Nat} (hG : NumsAt (Low w) w pg c.groups) (hgl : c.groups.length ≤ 16777216) :
  Calls Try.prog 40 #[.agg #[.slice p ns.length cap, .int .u32 gen], .int .i64 n, .agg #[.int .u32 c.user, .int .u32 c.group, .slice pg c.groups.length cg]] w (Ret w (.bool (ownsS ns n c))) := by
 refine calls_ofQ (args := [_, _, _]) [base w (Low w)] Try.func40 (by kernel_rfl) (by kernel_rfl) (Heap.start w) ?_
 intro Q hQ
 refine Ev.sr 3 ?_
 refine Rg.bx 3 25 (.tmp 0) rfl fun b1 => ?_
 refine Rg.bx 5 56 (.tmp 2) rfl fun b2 => ?_
 refine Rg.ac 6 (.bool false) ?_
 refine Rg.nx (fun _ _ h => h) [6,5,3,1] rfl ?_
 refine Ev.sr 9 ?_
 refine Rg.p 10 (.load 25 (.tmp 3)) (v := .agg #[.slice p ns.length cap, .int .u32 gen]) (pv_load_blk_whole 1 rfl rfl (by kernel_rfl) (by kernel_rfl)) ?_
 refine Rg.mv 11 1 rfl ?_
 refine Rg.cl (some 12) 18 #[.tmp 10, .tmp 11] #[25, 3] (v := .tuple #[.agg (attrsS ns n), .bool (thereS ns n)]) rfl (fun w hw => Attrs_calls ((hT).keep (hw.at_ 2 rfl) (fun k hk => hw.lt 2 rfl hk)) hW) ?_
 refine Rg.mv 9 12 rfl ?_
 refine Rg.ex 13 9 0 rfl rfl ?_
 refine Rg.ex 14 9 1 rfl rfl ?_
 refine Rg.al 7 38 (.agg #[.int .u32 0, .int .u32 0, .int .u32 0, .int .u32 0, .int .u32 0, .int .u64 0, .int .u64 0, .int .u64 0, .int .u32 0, .int .u32 0, .int .u32 0, .int .u32 0, .int .u32 0, .int .u32 0]) fun b3 => ?_
 refine rg_store (t := 38) (x := .tmp 7) (y := .tmp 13) (g := none) (cs' := (attrsS ns n)) 0 (by kernel_rfl) (by kernel_rfl) rfl rfl rfl (by show szT Try.prog 38 = some ((attrsS ns n)).size; rw [attrs_size]; kernel_rfl) (by show 0 + ((attrsS ns n)).size ≤ _; rw [attrs_size]; decide) (attrs_one _ _) (attrs_put _ _ _ rfl) ?_
 refine Rg.as 8 14 rfl ?_
 refine Rg.nx (fun _ _ h => h) [8,7,6,5] rfl ?_
 refine Ev.sr 14 ?_
 refine Rg.mv 15 8 rfl ?_
 refine Rg.mv 16 15 rfl ?_
 refine Rg.ga 13 27 16 ((decide (c.user = 0)) || (decide (c.user = (attrUser ns n)))) rfl (fun h1 => ?_) (fun h1 => ?_) ?_
 ·
  have ⟨h2, h3, h4⟩ := thereS_t h1
  refine Rg.pg 1 true 17 (.fieldAddr 56 (.tmp 5) 0) (pv_fieldAddr rfl (n := 0) (by kernel_rfl)) ?_
  refine Rg.pg 1 true 18 (.load 23 (.tmp 17)) (v := .int .u32 c.user) (pv_load_blk 1 rfl rfl (by kernel_rfl) rfl) ?_
  refine Rg.pg 1 true 19 (.binOp .eql 23 (.tmp 18) (.const (.int .u32 0)) 23) (pv_eql rfl rfl) ?_
  refine Rg.pg 1 true 20 (.move (.tmp 19)) (pv_move rfl) ?_
  refine Rg.go 12 26 20 (decide (c.user = (attrUser ns n))) rfl (fun h5 => ?_) (fun h5 => ?_) ?_
  ·
   refine Rg.skips 11 (by kernel_rfl) ?_
   refine Rg.pg 1 true 26 (.pick (.tmp 20) (.const (.bool true)) (.tmp 25)) (pv_pick_t rfl rfl) ?_
   exact Rg.em 20 h5 (ot_t h5) rfl rfl
  ·
   have h6 := of_decide_eq_false h5
   refine Rg.pg 5 false 21 (.fieldAddr 56 (.tmp 5) 0) (pv_fieldAddr rfl (n := 0) (by kernel_rfl)) ?_
   refine Rg.pg 5 false 22 (.load 23 (.tmp 21)) (v := .int .u32 c.user) (pv_load_blk 1 rfl rfl (by kernel_rfl) rfl) ?_
   refine Rg.pg 5 false 23 (.fieldAddr 38 (.tmp 7) 3) (pv_fieldAddr rfl (n := 3) (by kernel_rfl)) ?_
   refine Rg.pg 5 false 24 (.load 23 (.tmp 23)) (v := .int .u32 (attrUser ns n)) (pv_load_blk 0 rfl rfl (by kernel_rfl) (attrs_3 _ _)) ?_
   refine Rg.pg 5 false 25 (.binOp .eql 23 (.tmp 22) (.tmp 24) 23) (pv_eql rfl rfl) ?_
   refine Rg.pg 1 true 26 (.pick (.tmp 20) (.const (.bool true)) (.tmp 25)) (pv_pick_f rfl rfl) ?_
   exact Rg.em 20 h5 (ot_f h5) rfl rfl
  refine Rg.p 27 (.pick (.tmp 16) (.tmp 26) (.const (.bool false))) (pv_pick_t rfl rfl) ?_
  exact Rg.em 16 h1 (at_t h1) rfl rfl
 ·
  refine Rg.skips 12 (by kernel_rfl) ?_
  refine Rg.p 27 (.pick (.tmp 16) (.tmp 26) (.const (.bool false))) (pv_pick_f rfl rfl) ?_
  exact Rg.em 16 h1 (at_f h1) rfl rfl
 refine Rg.as 6 27 rfl ?_
 refine Rg.nx (fun _ _ h => h) [6] rfl ?_
 refine Ev.rt ?_
 refine At.via (Q := Q) hQ ?_
 refine At.ret1 rfl rfl rfl ?_
 exact fun w hw => ⟨(by unfold ownsS; rfl), hw.base_below 3 rfl⟩

end Go.Proofs.Ytfhhggcdmgjbcaa.Sx
