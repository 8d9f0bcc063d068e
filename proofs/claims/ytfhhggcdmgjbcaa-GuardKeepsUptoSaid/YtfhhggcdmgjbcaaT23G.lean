/-
  A part of the walk of the seat: laws of a small proof system, and contracts of functions, each proved. Conditions: as each theorem says.
-/
import Derived.Test.YtfhhggcdmgjbcaaProg
import Derived.Test.YtfhhggcdmgjbcaaT22
namespace Go.Proofs.Ytfhhggcdmgjbcaa.Sx
open Go Go.RowKit Go.Proofs

set_option maxHeartbeats 8000000 in
theorem clone_calls {p : Option Addr} {ns : List Node} {al : List Loc} {cap : Nat} {gen : Int} {w : World} (hT : NodesAt (Low w) w p ns al) (hW : NodesWf ns) :
  Calls Try.prog 70 #[.agg #[.slice p ns.length cap, .int .u32 gen]] w (RetN w (fun _ : TL => True) (fun x => .agg #[.slice x.p ns.length x.c, .int .u32 gen]) (fun x => [own 44 25 x.p ns.length x.d (flat ns x.l), dataI none x.G ns x.l])) := by
 refine calls_ofQ (args := [_]) [base w (Low w)] Try.func70 (by kernel_rfl) (by kernel_rfl) (Heap.start w) ?_
 intro Q hQ
 have hlen := hW.len
 refine Ev.sr 2 ?_
 refine Rg.bx 1 25 (.tmp 0) rfl fun b1 => ?_
 refine Rg.al 2 25 (.agg #[.slice none 0 0, .int .u32 0]) fun b2 => ?_
 refine Rg.nx (fun _ _ h => h) [2,1] rfl ?_
 refine Ev.sr 5 ?_
 refine Rg.fa 5 25 1 0 0 rfl ?_
 refine Rg.ld 6 22 5 1 rfl rfl rfl ?_
 refine Rg.p 7 (.call { callee := .builtin .len, args := #[.tmp 6], argTypes := #[22] }) (pv_len_slice rfl (by kernel_rfl)) ?_
 refine rg_makeRowsN (d := 8) (t := 22) (e := 44) (sz := 25) (x := .tmp 7) (y := .tmp 7) (g := none) ns.length (by kernel_rfl) (by kernel_rfl) rfl rfl (by kernel_rfl) (zv := .agg #[.int .u32 0, .int .u32 0, .int .u32 0, .int .u32 0, .int .u32 0, .int .i64 0, .int .u32 0, .int .u32 0, .int .u32 0, .int .u32 0, .int .u32 0, .int .u32 0, .slice none 0 0, .int .u8 0, .int .u8 0, .int .u8 0, .int .u8 0, .int .u8 0, .int .u8 0, .int .u8 0, .int .u8 0, .string ⟨#[]⟩, .slice none 0 0, .int .i64 0, .int .u64 0]) (by kernel_rfl) (by kernel_rfl) (by omega) (by show bytesT Try.prog 44 ≤ 65536; rw [show bytesT Try.prog 44 = 144 from by kernel_rfl]; omega) ?_
 intro b3
 refine Rg.as 3 8 rfl ?_
 refine Rg.nx (fun _ _ h => h) [3,2,1] rfl ?_
 refine Ev.sr 4 ?_
 refine Rg.mv 9 3 rfl ?_
 refine Rg.fa 10 25 1 0 0 rfl ?_
 refine Rg.ld 11 22 10 2 rfl rfl rfl ?_
 refine rg_copy (d := 12) (t := 22) (ty := 22) (e := 44) (sz := 25) (x := .tmp 9) (y := .tmp 11) (g := none) (m := ns.length) (ys := flat ns al) (zs := flat ns al) 0 (by kernel_rfl) (by kernel_rfl) rfl rfl (by kernel_rfl) rfl rfl (Nat.le_refl _) (flat_length _ _) (flat_one _ _) (fun w hw => firstCells_nodes (hT.keep (hw.at_ 3 rfl) (fun _ h => h))) (putL_all _ _ (by rw [flat_length]; simp)) ?_
 refine Rg.nx (fun _ _ h => h) [3,2,1] rfl ?_
 refine Ev.sq ?_
 refine Ev.sr 3 ?_
 refine Rg.mv 13 3 rfl ?_
 refine Rg.p 14 (.call { callee := .builtin .len, args := #[.tmp 13], argTypes := #[22] }) (pv_len_slice rfl (by kernel_rfl)) ?_
 refine Rg.mc 15 (.int .i64 0) ?_
 refine Rg.nx (fun _ _ h => h) [15,14,3,2,1] rfl ?_
 refine Ev.bk 0 ?_
 refine Ev.heap (fun w hw => hw.twin0 (ns := ns) (al := al) hT.len) ?_
 refine ev_loop (T := Nat × List Loc × (Nat → Prop)) (fun x_ => (fun i l G => [(15, .int .i64 (i : Int)), (14, .int .i64 (ns.length : Int)), (1, .pointer (some ⟨b1, 0, none⟩)), (2, .pointer (some ⟨b2, 0, none⟩)), (3, .slice (some ⟨b3, 0, none⟩) ns.length ns.length)]) x_.1 x_.2.1 x_.2.2) (fun x_ => (fun i l G => [own 44 25 (some ⟨b3, 0, none⟩) ns.length ns.length (flat ns l), twinTo G ns al l i, blk b2 (.cells #[.slice none 0 0, .int .u32 0] 25 (0, 0)), blk b1 (.cells #[.slice p ns.length cap, .int .u32 gen] 25 (0, 0)), base w (Low w)]) x_.1 x_.2.1 x_.2.2) (fun x_ => (fun i l G => i ≤ ns.length ∧ l.length = ns.length) x_.1 x_.2.1 x_.2.2) (fun x_ => (fun i l G => ns.length - i) x_.1 x_.2.1 x_.2.2) (0, al, fun _ => False) [1, 0, 2, 3, 4] (by kernel_rfl) ⟨Nat.zero_le _, hT.len⟩ (.cons (rfl) (.cons (rfl) (.cons (rfl) (.cons (rfl) (.cons (rfl) (.nil _)))))) rfl (by decide) ?_
 rintro ⟨i, l, G⟩ ⟨(hi : i ≤ ns.length), (hll_ : l.length = ns.length)⟩
 show Ev _ _ [(15, .int .i64 (i : Int)), (14, .int .i64 (ns.length : Int)), (1, .pointer (some ⟨b1, 0, none⟩)), (2, .pointer (some ⟨b2, 0, none⟩)), (3, .slice (some ⟨b3, 0, none⟩) ns.length ns.length)] [own 44 25 (some ⟨b3, 0, none⟩) ns.length ns.length (flat ns l), twinTo G ns al l i, blk b2 (.cells #[.slice none 0 0, .int .u32 0] 25 (0, 0)), blk b1 (.cells #[.slice p ns.length cap, .int .u32 gen] 25 (0, 0)), base w (Low w)] _
 refine Ev.sr 1 ?_
 refine Rg.p 16 (.binOp .lss 3 (.tmp 15) (.tmp 14) 3) (pv_lss rfl rfl) ?_
 refine Rg.nx (fun _ _ h => h) [16,15,14,3,2,1] rfl ?_
 refine Ev.sq ?_
 refine Ev.cd 16 rfl (fun h1 => ?_) (fun h1 => ?_)
 ·
  have h2 := of_decide_eq_true h1
  refine Ev.sk ?_
  refine At.nx (fun _ _ h => h) [16,15,14,3,2,1] rfl ?_
  refine Ev.sq ?_
  refine Ev.bk 1 ?_
  refine Ev.sr 2 ?_
  refine Rg.mv 17 15 rfl ?_
  refine Rg.as 4 17 rfl ?_
  refine Rg.nx (fun _ _ h => h) [17,16,15,14,4,3,2,1] rfl ?_
  refine Ev.ke [17,16,15,14,4,3,2,1] rfl ?_
  refine ev_csl (n := 24) (E := [(1, .pointer (some ⟨b1, 0, none⟩)), (2, .pointer (some ⟨b2, 0, none⟩)), (3, .slice (some ⟨b3, 0, none⟩) ns.length ns.length), (4, .int .i64 (i : Int)), (14, .int .i64 (ns.length : Int)), (15, .int .i64 (i : Int)), (16, .bool (decide ((i : Int) < (ns.length : Int)))), (17, .int .i64 (i : Int))]) ⟨24, 11, [[0], [1], [2], [3], [4], [5], [4, 5, 6], [4, 5, 6, 7], [4, 5, 6, 7, 8], [4, 5, 6, 7, 8, 9], [4, 5, 6, 7, 8, 9, 10], [11], [12], [11, 12, 13], [11, 12, 13, 14], [11, 12, 13, 14, 15], [4, 5, 6, 7, 8, 9, 10, 11, 12, 13, 14, 15, 16], [4, 5, 6, 7, 8, 9, 10, 11, 12, 13, 14, 15, 16, 17], [0, 1, 4, 5, 6, 7, 8, 9, 10, 11, 12, 13, 14, 15, 16, 17, 18], [0, 1, 4, 5, 6, 7, 8, 9, 10, 11, 12, 13, 14, 15, 16, 17, 18, 19], [0, 1, 4, 5, 6, 7, 8, 9, 10, 11, 12, 13, 14, 15, 16, 17, 18, 19, 20], [0, 1, 2, 3, 4, 5, 6, 7, 8, 9, 10, 11, 12, 13, 14, 15, 16, 17, 18, 19, 20, 21], [0, 1, 2, 3, 4, 5, 6, 7, 8, 9, 10, 11, 12, 13, 14, 15, 16, 17, 18, 19, 20, 21, 22], [0, 1, 2, 3, 4, 5, 6, 7, 8, 9, 10, 11, 12, 13, 14, 15, 16, 17, 18, 19, 20, 21, 22, 23]], [[], [], [], [], [], [], [4, 5], [6], [7], [8], [9], [], [], [11, 12], [13], [14], [15], [16], [0, 1], [18], [10, 19], [2, 3], [21], [17, 22]], [none, none, none, none, none, some 9, some 9, some 16, some 16, some 20, some 23], [some 20, none, none, none, none, none, none, none, none, some 23, none], [[], [], [], [], [], [], [], [], [0], [1, 4], [6], [], [], [], [], [0], [1, 4], [8], [], [], [], [], [], []]⟩ (fun ch j => ([.slice (some ⟨b3, 0, none⟩) ns.length ns.length, .int .i64 (i : Int), .slice (some ⟨b3, 0, none⟩) ns.length ns.length, .int .i64 (i : Int), .slice (some ⟨b3, 0, none⟩) ns.length ns.length, .int .i64 (i : Int), .pointer (some ⟨b3, 0 + i * 25, none⟩), .pointer (some ⟨b3, 0 + i * 25 + 12, none⟩), .slice ((lc l i).dA) ((nd ns i).data.length) ((lc l i).dCap), .slice ((ch 9).fp) ((nd ns i).data.length) ((ch 9).fc), .slice ((ch 9).fp) ((nd ns i).data.length) ((nd ns i).data.length), .slice (some ⟨b3, 0, none⟩) ns.length ns.length, .int .i64 (i : Int), .pointer (some ⟨b3, 0 + i * 25, none⟩), .pointer (some ⟨b3, 0 + i * 25 + 22, none⟩), .slice ((lc l i).lA) ((nd ns i).list.length) ((lc l i).lCap), .slice ((ch 16).fp) ((nd ns i).list.length) ((ch 16).fc), .slice ((ch 16).fp) ((nd ns i).list.length) ((nd ns i).list.length), .pointer (some ⟨b3, 0 + i * 25, none⟩), .pointer (some ⟨b3, 0 + i * 25 + 12, none⟩), undef, .pointer (some ⟨b3, 0 + i * 25, none⟩), .pointer (some ⟨b3, 0 + i * 25 + 22, none⟩), undef] : List Value).getD j undef) (fun ch t => ([own 44 25 (some ⟨b3, 0, none⟩) ns.length ns.length (flat ns l), twinTo G ns al l i, blk b2 (.cells #[.slice none 0 0, .int .u32 0] 25 (0, 0)), blk b1 (.cells #[.slice p ns.length cap, .int .u32 gen] 25 (0, 0)), base w (Low w), own 5 1 ((ch 9).fp) ((nd ns i).data.length) ((ch 9).fc) (bv ((nd ns i).data)), fact ((nd ns i).data.length ≤ (ch 9).fc), own 50 3 ((ch 16).fp) ((nd ns i).list.length) ((ch 16).fc) (flatE ((nd ns i).list)), fact ((nd ns i).list.length ≤ (ch 16).fc), own 44 25 (some ⟨b3, 0, none⟩) ns.length ns.length (flat ns (l.set i ({ lc l i with dA := (ch 9).fp, dCap := (nd ns i).data.length } : Loc))), own 44 25 (some ⟨b3, 0, none⟩) ns.length ns.length (flat ns ((l.set i ({ lc l i with dA := (ch 9).fp, dCap := (nd ns i).data.length } : Loc)).set i ({ lc (l.set i ({ lc l i with dA := (ch 9).fp, dCap := (nd ns i).data.length } : Loc)) i with lA := (ch 16).fp, lCap := (nd ns i).list.length } : Loc)))] : List Item).getD t noItem) (by kernel_rfl) (by kernel_rfl) (fun ch => by kernel_rfl) ?_ ?_
  ·
   refine all_lt_succ (all_lt_succ (all_lt_succ (all_lt_succ (all_lt_succ (all_lt_succ (all_lt_succ (all_lt_succ (all_lt_succ (all_lt_succ (all_lt_succ (all_lt_succ (all_lt_succ (all_lt_succ (all_lt_succ (all_lt_succ (all_lt_succ (all_lt_succ (all_lt_succ (all_lt_succ (all_lt_succ (all_lt_succ (all_lt_succ (all_lt_succ all_lt_zero ?_) ?_) ?_) ?_) ?_) ?_) ?_) ?_) ?_) ?_) ?_) ?_) ?_) ?_) ?_) ?_) ?_) ?_) ?_) ?_) ?_) ?_) ?_) ?_
   ·
    intro ch R F
    refine csl_go [] [] ?_
    refine Rg.mv 18 3 rfl ?_
    exact csl_end {}
   ·
    intro ch R F
    refine csl_go [] [] ?_
    refine Rg.mv 19 4 rfl ?_
    exact csl_end {}
   ·
    intro ch R F
    refine csl_go [] [] ?_
    refine Rg.mv 20 3 rfl ?_
    exact csl_end {}
   ·
    intro ch R F
    refine csl_go [] [] ?_
    refine Rg.mv 21 4 rfl ?_
    exact csl_end {}
   ·
    intro ch R F
    refine csl_go [] [] ?_
    refine Rg.mv 22 3 rfl ?_
    exact csl_end {}
   ·
    intro ch R F
    refine csl_go [] [] ?_
    refine Rg.mv 23 4 rfl ?_
    exact csl_end {}
   ·
    intro ch R F
    refine csl_go [(22, .slice (some ⟨b3, 0, none⟩) ns.length ns.length), (23, .int .i64 (i : Int))] [] ?_
    refine Rg.p 24 (.indexAddr 22 (.tmp 22) (.tmp 23)) (v := .pointer (some ⟨b3, 0 + i * 25, none⟩)) (pv_indexN rfl rfl (e := 44) (sz := 25) (k := i) (by kernel_rfl) (by omega)) ?_
    exact csl_end {}
   ·
    intro ch R F
    refine csl_go [(24, .pointer (some ⟨b3, 0 + i * 25, none⟩))] [] ?_
    refine Rg.fa 25 44 24 9 12 rfl ?_
    exact csl_end {}
   ·
    intro ch R F
    refine csl_go [(25, .pointer (some ⟨b3, 0 + i * 25 + 12, none⟩))] [own 44 25 (some ⟨b3, 0, none⟩) ns.length ns.length (flat ns l)] ?_
    refine Rg.p 26 (.load 29 (.tmp 25)) (v := .slice ((lc l i).dA) ((nd ns i).data.length) ((lc l i).dCap)) (pv_load_ownfield (ns := ns) (al := l) (i := i) (f := 12) 0 rfl rfl (by omega) (by kernel_rfl) rfl) ?_
    exact csl_end {}
   ·
    intro ch R F
    refine csl_go [(26, .slice ((lc l i).dA) ((nd ns i).data.length) ((lc l i).dCap))] [twinTo G ns al l i, base w (Low w)] ?_
    refine Rg.cn (T := Option Addr × Nat) (some 27) 104 #[.tmp 26] #[29] (v := fun ⟨p5, c6⟩ => .slice p5 ((nd ns i).data.length) c6) (L := fun ⟨p5, c6⟩ => [own 5 1 p5 ((nd ns i).data.length) c6 (bv ((nd ns i).data))]) rfl (fun w hw => CloneB_calls ((twin_at hw 0 1 rfl rfl hT (by omega)).data) (by have h_ := (hW.node i).data; omega)) ?_
    rintro ⟨p5, c6⟩ hk_c6
    dsimp only [putE, List.append, HAppend.hAppend, Append.append]
    exact csl_endH {fp := p5, fc := c6} (S2 := [own 5 1 p5 ((nd ns i).data.length) c6 (bv ((nd ns i).data)), fact ((nd ns i).data.length ≤ c6), twinTo G ns al l i, base w (Low w)] ++ F) (fun w_ hw => csl_perm (S := [fact ((nd ns i).data.length ≤ c6), own 5 1 p5 ((nd ns i).data.length) c6 (bv ((nd ns i).data)), twinTo G ns al l i, base w (Low w)]) [1, 0, 2, 3] 4 ((hw).addFact (show (nd ns i).data.length ≤ c6 from hk_c6)))
   ·
    intro ch R F
    refine csl_go [(27, .slice ((ch 9).fp) ((nd ns i).data.length) ((ch 9).fc))] [fact ((nd ns i).data.length ≤ (ch 9).fc)] ?_
    refine Rg.fac (fun w hw => hw.at_ 0 rfl) (fun hk_c6 => ?_)
    refine Rg.cl (some 28) 89 #[.tmp 27] #[29] (v := .slice ((ch 9).fp) ((nd ns i).data.length) ((nd ns i).data.length)) rfl (fun w hw => ClipB_calls hk_c6) ?_
    exact csl_end {}
   ·
    intro ch R F
    refine csl_go [] [] ?_
    refine Rg.mv 29 3 rfl ?_
    exact csl_end {}
   ·
    intro ch R F
    refine csl_go [] [] ?_
    refine Rg.mv 30 4 rfl ?_
    exact csl_end {}
   ·
    intro ch R F
    refine csl_go [(29, .slice (some ⟨b3, 0, none⟩) ns.length ns.length), (30, .int .i64 (i : Int))] [] ?_
    refine Rg.p 31 (.indexAddr 22 (.tmp 29) (.tmp 30)) (v := .pointer (some ⟨b3, 0 + i * 25, none⟩)) (pv_indexN rfl rfl (e := 44) (sz := 25) (k := i) (by kernel_rfl) (by omega)) ?_
    exact csl_end {}
   ·
    intro ch R F
    refine csl_go [(31, .pointer (some ⟨b3, 0 + i * 25, none⟩))] [] ?_
    refine Rg.fa 32 44 31 12 22 rfl ?_
    exact csl_end {}
   ·
    intro ch R F
    refine csl_go [(32, .pointer (some ⟨b3, 0 + i * 25 + 22, none⟩))] [own 44 25 (some ⟨b3, 0, none⟩) ns.length ns.length (flat ns l)] ?_
    refine Rg.p 33 (.load 42 (.tmp 32)) (v := .slice ((lc l i).lA) ((nd ns i).list.length) ((lc l i).lCap)) (pv_load_ownfield (ns := ns) (al := l) (i := i) (f := 22) 0 rfl rfl (by omega) (by kernel_rfl) rfl) ?_
    exact csl_end {}
   ·
    intro ch R F
    refine csl_go [(33, .slice ((lc l i).lA) ((nd ns i).list.length) ((lc l i).lCap))] [twinTo G ns al l i, base w (Low w)] ?_
    refine Rg.cn (T := Option Addr × Nat) (some 34) 120 #[.tmp 33] #[42] (v := fun ⟨p8, c9⟩ => .slice p8 ((nd ns i).list.length) c9) (L := fun ⟨p8, c9⟩ => [own 50 3 p8 ((nd ns i).list.length) c9 (flatE ((nd ns i).list))]) rfl (fun w hw => CloneE_calls ((twin_at hw 0 1 rfl rfl hT (by omega)).list) (by have h_ := (hW.node i).list; omega)) ?_
    rintro ⟨p8, c9⟩ hk_c9
    dsimp only [putE, List.append, HAppend.hAppend, Append.append]
    exact csl_endH {fp := p8, fc := c9} (S2 := [own 50 3 p8 ((nd ns i).list.length) c9 (flatE ((nd ns i).list)), fact ((nd ns i).list.length ≤ c9), twinTo G ns al l i, base w (Low w)] ++ F) (fun w_ hw => csl_perm (S := [fact ((nd ns i).list.length ≤ c9), own 50 3 p8 ((nd ns i).list.length) c9 (flatE ((nd ns i).list)), twinTo G ns al l i, base w (Low w)]) [1, 0, 2, 3] 4 ((hw).addFact (show (nd ns i).list.length ≤ c9 from hk_c9)))
   ·
    intro ch R F
    refine csl_go [(34, .slice ((ch 16).fp) ((nd ns i).list.length) ((ch 16).fc))] [fact ((nd ns i).list.length ≤ (ch 16).fc)] ?_
    refine Rg.fac (fun w hw => hw.at_ 0 rfl) (fun hk_c9 => ?_)
    refine Rg.cl (some 35) 119 #[.tmp 34] #[42] (v := .slice ((ch 16).fp) ((nd ns i).list.length) ((nd ns i).list.length)) rfl (fun w hw => ClipE_calls hk_c9) ?_
    exact csl_end {}
   ·
    intro ch R F
    refine csl_go [(18, .slice (some ⟨b3, 0, none⟩) ns.length ns.length), (19, .int .i64 (i : Int))] [] ?_
    refine Rg.p 36 (.indexAddr 22 (.tmp 18) (.tmp 19)) (v := .pointer (some ⟨b3, 0 + i * 25, none⟩)) (pv_indexN rfl rfl (e := 44) (sz := 25) (k := i) (by kernel_rfl) (by omega)) ?_
    exact csl_end {}
   ·
    intro ch R F
    refine csl_go [(36, .pointer (some ⟨b3, 0 + i * 25, none⟩))] [] ?_
    refine Rg.fa 37 44 36 9 12 rfl ?_
    exact csl_end {}
   ·
    intro ch R F
    refine csl_go [(28, .slice ((ch 9).fp) ((nd ns i).data.length) ((nd ns i).data.length)), (37, .pointer (some ⟨b3, 0 + i * 25 + 12, none⟩))] [own 44 25 (some ⟨b3, 0, none⟩) ns.length ns.length (flat ns l)] ?_
    refine rg_store_ownV (t := 29) (x := .tmp 37) (y := .tmp 28) (g := none) (xs' := flat ns (l.set i ({ lc l i with dA := (ch 9).fp, dCap := (nd ns i).data.length } : Loc))) 0 (by kernel_rfl) (by kernel_rfl) rfl rfl rfl (by kernel_rfl) (by kernel_rfl) (by rw [flat_length]; show 0 + i * 25 + 12 + 1 ≤ _; omega) (by rw [show 0 + i * 25 + 12 = i * 25 + 12 by omega]; exact flat_putL (by omega) (by omega) (Nat.le_of_ble_eq_true (by kernel_rfl)) (by kernel_rfl)) ?_
    exact csl_end {}
   ·
    intro ch R F
    refine csl_go [(20, .slice (some ⟨b3, 0, none⟩) ns.length ns.length), (21, .int .i64 (i : Int))] [] ?_
    refine Rg.p 38 (.indexAddr 22 (.tmp 20) (.tmp 21)) (v := .pointer (some ⟨b3, 0 + i * 25, none⟩)) (pv_indexN rfl rfl (e := 44) (sz := 25) (k := i) (by kernel_rfl) (by omega)) ?_
    exact csl_end {}
   ·
    intro ch R F
    refine csl_go [(38, .pointer (some ⟨b3, 0 + i * 25, none⟩))] [] ?_
    refine Rg.fa 39 44 38 12 22 rfl ?_
    exact csl_end {}
   ·
    intro ch R F
    refine csl_go [(35, .slice ((ch 16).fp) ((nd ns i).list.length) ((nd ns i).list.length)), (39, .pointer (some ⟨b3, 0 + i * 25 + 22, none⟩))] [own 44 25 (some ⟨b3, 0, none⟩) ns.length ns.length (flat ns (l.set i ({ lc l i with dA := (ch 9).fp, dCap := (nd ns i).data.length } : Loc)))] ?_
    refine rg_store_ownV (t := 42) (x := .tmp 39) (y := .tmp 35) (g := none) (xs' := flat ns ((l.set i ({ lc l i with dA := (ch 9).fp, dCap := (nd ns i).data.length } : Loc)).set i ({ lc (l.set i ({ lc l i with dA := (ch 9).fp, dCap := (nd ns i).data.length } : Loc)) i with lA := (ch 16).fp, lCap := (nd ns i).list.length } : Loc))) 0 (by kernel_rfl) (by kernel_rfl) rfl rfl rfl (by kernel_rfl) (by kernel_rfl) (by rw [flat_length]; show 0 + i * 25 + 22 + 1 ≤ _; omega) (by rw [show 0 + i * 25 + 22 = i * 25 + 22 by omega]; exact flat_putL (by omega) (by rw [List.length_set]; omega) (Nat.le_of_ble_eq_true (by kernel_rfl)) (by kernel_rfl)) ?_
    exact csl_end {}
  ·
   intro ch
   refine at_codeS [0, 1, 2, 3, 4, 5, 6, 7, 8] [(1, .pointer (some ⟨b1, 0, none⟩)), (2, .pointer (some ⟨b2, 0, none⟩)), (3, .slice (some ⟨b3, 0, none⟩) ns.length ns.length), (4, .int .i64 (i : Int)), (14, .int .i64 (ns.length : Int)), (15, .int .i64 (i : Int)), (16, .bool (decide ((i : Int) < (ns.length : Int)))), (17, .int .i64 (i : Int)), (18, .slice (some ⟨b3, 0, none⟩) ns.length ns.length), (19, .int .i64 (i : Int)), (20, .slice (some ⟨b3, 0, none⟩) ns.length ns.length), (21, .int .i64 (i : Int)), (22, .slice (some ⟨b3, 0, none⟩) ns.length ns.length), (23, .int .i64 (i : Int)), (24, .pointer (some ⟨b3, 0 + i * 25, none⟩)), (25, .pointer (some ⟨b3, 0 + i * 25 + 12, none⟩)), (26, .slice ((lc l i).dA) ((nd ns i).data.length) ((lc l i).dCap)), (27, .slice ((ch 9).fp) ((nd ns i).data.length) ((ch 9).fc)), (28, .slice ((ch 9).fp) ((nd ns i).data.length) ((nd ns i).data.length)), (29, .slice (some ⟨b3, 0, none⟩) ns.length ns.length), (30, .int .i64 (i : Int)), (31, .pointer (some ⟨b3, 0 + i * 25, none⟩)), (32, .pointer (some ⟨b3, 0 + i * 25 + 22, none⟩)), (33, .slice ((lc l i).lA) ((nd ns i).list.length) ((lc l i).lCap)), (34, .slice ((ch 16).fp) ((nd ns i).list.length) ((ch 16).fc)), (35, .slice ((ch 16).fp) ((nd ns i).list.length) ((nd ns i).list.length)), (36, .pointer (some ⟨b3, 0 + i * 25, none⟩)), (37, .pointer (some ⟨b3, 0 + i * 25 + 12, none⟩)), (38, .pointer (some ⟨b3, 0 + i * 25, none⟩)), (39, .pointer (some ⟨b3, 0 + i * 25 + 22, none⟩))] [twinTo G ns al l i, blk b2 (.cells #[.slice none 0 0, .int .u32 0] 25 (0, 0)), blk b1 (.cells #[.slice p ns.length cap, .int .u32 gen] 25 (0, 0)), base w (Low w), own 5 1 ((ch 9).fp) ((nd ns i).data.length) ((ch 9).fc) (bv ((nd ns i).data)), fact ((nd ns i).data.length ≤ (ch 9).fc), own 50 3 ((ch 16).fp) ((nd ns i).list.length) ((ch 16).fc) (flatE ((nd ns i).list)), fact ((nd ns i).list.length ≤ (ch 16).fc), own 44 25 (some ⟨b3, 0, none⟩) ns.length ns.length (flat ns ((l.set i ({ lc l i with dA := (ch 9).fp, dCap := (nd ns i).data.length } : Loc)).set i ({ lc (l.set i ({ lc l i with dA := (ch 9).fp, dCap := (nd ns i).data.length } : Loc)) i with lA := (ch 16).fp, lCap := (nd ns i).list.length } : Loc)))] (.cons (by kernel_rfl) (.cons (by kernel_rfl) (.cons (by kernel_rfl) (.cons (by kernel_rfl) (.cons (by kernel_rfl) (.cons (by kernel_rfl) (.cons (by kernel_rfl) (.cons (by kernel_rfl) (.cons (by kernel_rfl) (.cons (by kernel_rfl) (.cons (by kernel_rfl) (.cons (by kernel_rfl) (.cons (by kernel_rfl) (.cons (by kernel_rfl) (.cons (by kernel_rfl) (.cons (by kernel_rfl) (.cons (by kernel_rfl) (.cons (by kernel_rfl) (.cons (by kernel_rfl) (.cons (by kernel_rfl) (.cons (by kernel_rfl) (.cons (by kernel_rfl) (.cons (by kernel_rfl) (.cons (by kernel_rfl) (.cons (by kernel_rfl) (.cons (by kernel_rfl) (.cons (by kernel_rfl) (.cons (by kernel_rfl) (.cons (by kernel_rfl) (.cons (by kernel_rfl) (.nil _))))))))))))))))))))))))))))))) (by kernel_rfl) (by decide) (fun _ _ h => h) ?_
   obtain ⟨p5, e_p5⟩ : ∃ x_, (ch 9).fp = x_ := ⟨_, rfl⟩
   obtain ⟨c6, e_c6⟩ : ∃ x_, (ch 9).fc = x_ := ⟨_, rfl⟩
   obtain ⟨p8, e_p8⟩ : ∃ x_, (ch 16).fp = x_ := ⟨_, rfl⟩
   obtain ⟨c9, e_c9⟩ : ∃ x_, (ch 16).fc = x_ := ⟨_, rfl⟩
   rw [e_p5, e_c6, e_p8, e_c9]
   refine Ev.factAt 5 rfl (fun hk_c6 => ?_)
   refine Ev.factAt 7 rfl (fun hk_c9 => ?_)
   refine Ev.pickS [0, 1, 2, 3, 4, 6, 8] (S' := [twinTo G ns al l i, blk b2 (.cells #[.slice none 0 0, .int .u32 0] 25 (0, 0)), blk b1 (.cells #[.slice p ns.length cap, .int .u32 gen] 25 (0, 0)), base w (Low w), own 5 1 p5 ((nd ns i).data.length) c6 (bv ((nd ns i).data)), own 50 3 p8 ((nd ns i).list.length) c9 (flatE ((nd ns i).list)), own 44 25 (some ⟨b3, 0, none⟩) ns.length ns.length (flat ns ((l.set i ({ lc l i with dA := p5, dCap := (nd ns i).data.length } : Loc)).set i ({ lc (l.set i ({ lc l i with dA := p5, dCap := (nd ns i).data.length } : Loc)) i with lA := p8, lCap := (nd ns i).list.length } : Loc)))]) (by kernel_rfl) (by decide) ?_
   refine Ev.rg 2 ?_
   refine Rg.p 40 (.binOp .add 3 (.tmp 15) (.const (.int .i64 1)) 3) (pv_addb rfl rfl (in_i64 (by omega) (by omega))) ?_
   refine Rg.mv 15 40 rfl ?_
   refine Rg.fin rfl ?_
   have hl1_ : flat ns ((l.set i ({ lc l i with dA := p5, dCap := (nd ns i).data.length } : Loc)).set i ({ lc (l.set i ({ lc l i with dA := p5, dCap := (nd ns i).data.length } : Loc)) i with lA := p8, lCap := (nd ns i).list.length } : Loc)) = flat ns (l.set i (⟨p5, (nd ns i).data.length, p8, (nd ns i).list.length⟩ : Loc)) := by rw [loc_two (by omega), lc_two (by omega)]
   refine At.heap (S' := [twinTo (fun k => G k ∨ p5 = some ⟨k, 0, none⟩ ∨ p8 = some ⟨k, 0, none⟩) ns al (l.set i (⟨p5, (nd ns i).data.length, p8, (nd ns i).list.length⟩ : Loc)) (i + 1), blk b2 (.cells #[.slice none 0 0, .int .u32 0] 25 (0, 0)), blk b1 (.cells #[.slice p ns.length cap, .int .u32 gen] 25 (0, 0)), base w (Low w), own 44 25 (some ⟨b3, 0, none⟩) ns.length ns.length (flat ns (l.set i (⟨p5, (nd ns i).data.length, p8, (nd ns i).list.length⟩ : Loc)))]) (fun w hw => by rw [← hl1_]; exact ((hw.pick [4, 5, 0, 1, 2, 3, 6] (by decide)).twinS (by omega) rfl rfl)) ?_
   refine At.round (t := (i, l, G)) (fun _ _ h => h) (i + 1, (l.set i (⟨p5, (nd ns i).data.length, p8, (nd ns i).list.length⟩ : Loc)), (fun k => G k ∨ p5 = some ⟨k, 0, none⟩ ∨ p8 = some ⟨k, 0, none⟩)) [4, 0, 1, 2, 3] ⟨(by show i + 1 ≤ ns.length; omega), (by show (List.set _ _ _).length = _; rw [List.length_set]; omega)⟩ (by show ns.length - (i + 1) < ns.length - i; omega) (.cons (rfl) (.cons (rfl) (.cons (rfl) (.cons (rfl) (.cons (rfl) (.nil _)))))) rfl (by decide)
 ·
  have h3 := of_decide_eq_false h1
  refine Ev.xt 0 ?_
  refine At.nx (fun _ _ h => h) [3,2,1] rfl ?_
  refine Ev.sr 3 ?_
  refine Rg.mv 41 3 rfl ?_
  refine Rg.fa 42 25 1 0 0 rfl ?_
  refine Rg.st 22 42 (.tmp 41) 3 #[.slice (some ⟨b3, 0, none⟩) ns.length ns.length, .int .u32 gen] rfl rfl rfl ?_
  refine Rg.nx (fun _ _ h => h) [2,1] rfl ?_
  refine Ev.sr 2 ?_
  refine Rg.p 43 (.load 25 (.tmp 1)) (v := .agg #[.slice (some ⟨b3, 0, none⟩) ns.length ns.length, .int .u32 gen]) (pv_load_blk_whole 3 rfl rfl (by kernel_rfl) (by kernel_rfl)) ?_
  refine Rg.st 25 2 (.tmp 43) 2 #[.slice (some ⟨b3, 0, none⟩) ns.length ns.length, .int .u32 gen] rfl rfl rfl ?_
  refine Rg.nx (fun _ _ h => h) [2] rfl ?_
  refine Ev.rt ?_
  refine At.via (Q := Q) hQ ?_
  refine At.retCell rfl rfl (reads_cellA 2 rfl rfl (by kernel_rfl) (by kernel_rfl)) ?_
  exact fun w hw => ⟨⟨some ⟨b3, 0, none⟩, ns.length, ns.length, l, G⟩, trivial, rfl, by have e_ : i = ns.length := (by omega); exact ((hw.pick [1, 0, 4] (by decide)).twinE e_).pick [1, 0, 2] (by decide)⟩

end Go.Proofs.Ytfhhggcdmgjbcaa.Sx
