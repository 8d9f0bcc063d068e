/-
  A part of the walk of the seat: laws of a small proof system, and contracts of functions, each proved. Conditions: as each theorem says.
-/
import Derived.Test.YtfhhggcdmgjbcaaProg
import Derived.Test.YtfhhggcdmgjbcaaT13
namespace Go.Proofs.Ytfhhggcdmgjbcaa.Sx
open Go Go.RowKit Go.Proofs

def findS (ns : List Node) (h : List Int) : Int × Int :=
  if (getH h).2.2 ≠ 0 then (0, 10001) else
  cond (!thereS ns (getH h).1 || !decide ((nd ns (getH h).1.toNat).gen = (getH h).2.1)) (0, 70) ((getH h).1, 0)

set_option maxHeartbeats 8000000 in
theorem Find_calls {q : Option Addr} {h : List Int} {hc : Nat} {p : Option Addr} {ns : List Node} {al : List Loc} {cap : Nat} {gen : Int} {w : World} (hT : NodesAt (Low w) w p ns al) (hW : NodesWf ns) (hB : BytesAt (Low w) w q h) (hhl : h.length ≤ 4294967296) (hhc : h.length ≤ hc) :
  Calls Try.prog 19 #[.agg #[.slice p ns.length cap, .int .u32 gen], .slice q h.length hc] w (Ret w (.tuple #[.int .i64 (findS ns h).1, .int .u32 (findS ns h).2])) := by
 refine calls_ofQ (args := [_, _]) [base w (Low w)] Try.func19 (by kernel_rfl) (by kernel_rfl) (Heap.start w) ?_
 intro Q hQ
 refine Ev.sr 3 ?_
 refine Rg.bx 2 25 (.tmp 0) rfl fun b1 => ?_
 refine Rg.ac 4 (.int .i64 0) ?_
 refine Rg.ac 5 (.int .u32 0) ?_
 refine Rg.nx (fun _ _ h => h) [5,4,2,1] rfl ?_
 refine Ev.sr 8 ?_
 refine Rg.mv 9 1 rfl ?_
 refine Rg.cl (some 10) 62 #[.tmp 9] #[29] (v := .tuple #[.agg #[.int .i64 ((getH h).1), .int .u32 ((getH h).2.1)], .int .i64 ((getH h).2.2)]) rfl (fun w hw => hGet_calls (((hB).keep (hw.at_ 1 rfl) (fun k hk => hw.lt 1 rfl hk))) hhl hhc) ?_
 refine Rg.mv 8 10 rfl ?_
 refine Rg.ex 11 8 0 rfl rfl ?_
 refine Rg.ex 12 8 1 rfl rfl ?_
 refine Rg.al 6 132 (.agg #[.int .i64 0, .int .u32 0]) fun b2 => ?_
 refine Rg.st 132 6 (.tmp 11) 0 #[.int .i64 ((getH h).1), .int .u32 ((getH h).2.1)] rfl rfl rfl ?_
 refine Rg.as 7 12 rfl ?_
 refine Rg.nx (fun _ _ h => h) [7,6,5,4,2] rfl ?_
 refine Ev.sq ?_
 refine Ev.bk 0 ?_
 refine Ev.sr 3 ?_
 refine Rg.mv 14 7 rfl ?_
 refine Rg.p 15 (.binOp .neq 30 (.tmp 14) (.const (.int .i64 0)) 30) (pv_neq rfl rfl) ?_
 refine Rg.as 13 15 rfl ?_
 refine Rg.nx (fun _ _ h => h) [13,6,5,4,2] rfl ?_
 refine Ev.cd 13 rfl (fun h1 => ?_) (fun h1 => ?_)
 ·
  have h2 := of_decide_eq_false (not_t h1)
  refine Ev.sr 2 ?_
  refine Rg.ac 4 (.int .i64 0) ?_
  refine Rg.ac 5 (.int .u32 10001) ?_
  refine Rg.nx (fun _ _ h => h) [6,5,4] rfl ?_
  refine Ev.rt ?_
  refine At.via (Q := Q) hQ ?_
  refine At.ret2 rfl rfl rfl rfl ?_
  exact fun w hw => ⟨(by unfold findS; rw [if_pos (by simpa using h1)]), hw.base_below 2 rfl⟩
 ·
  have h3 := of_decide_eq_true (not_f h1)
  refine Ev.sq ?_
  refine ev_quiet (n := 18) (E' := [(4, .int .i64 0), (5, .int .u32 0), (6, .pointer (some ⟨b2, 0, none⟩)), (16, .bool ((!(thereS ns ((getH h).1))) || (!(decide (((nd ns (((getH h).1).toNat)).gen) = ((getH h).2.1))))))]) (by kernel_rfl) (by kernel_rfl) ?_ ?_
  ·
   refine Qg.pure (d := 17) (op := .load 25 (.tmp 2)) (g := none) (v := .agg #[.slice p ns.length cap, .int .u32 gen]) (by kernel_rfl) (by kernel_rfl) (pv_load_blk_whole 1 rfl rfl (by kernel_rfl) (by kernel_rfl)) ?_
   refine Qg.pure (d := 18) (op := .fieldAddr 132 (.tmp 6) 0) (g := none) (v := .pointer (some ⟨b2, 0 + 0, none⟩)) (by kernel_rfl) (by kernel_rfl) (pv_fieldAddr rfl (n := 0) (by kernel_rfl)) ?_
   refine Qg.pure (d := 19) (op := .load 3 (.tmp 18)) (g := none) (v := .int .i64 ((getH h).1)) (by kernel_rfl) (by kernel_rfl) (pv_load_blk 0 rfl rfl (by kernel_rfl) rfl) ?_
   refine qg_call (d := some 20) (f := 54) (xs := #[.tmp 17, .tmp 19]) (ts := #[25, 3]) (g := none) (v := .bool (thereS ns ((getH h).1))) (by kernel_rfl) (by kernel_rfl) (by kernel_rfl) rfl (fun w hw => there_calls ((hT).keep (hw.at_ 2 rfl) (fun k hk => hw.lt 2 rfl hk))) ?_
   refine Qg.pure (d := 21) (op := .unOp .not 4 (.tmp 20)) (g := none) (v := .bool (!(thereS ns ((getH h).1)))) (by kernel_rfl) (by kernel_rfl) (pv_not (b := thereS ns ((getH h).1)) rfl) ?_
   refine Qg.pure (d := 22) (op := .move (.tmp 21)) (g := none) (v := .bool (!(thereS ns ((getH h).1)))) (by kernel_rfl) (by kernel_rfl) (pv_move rfl) ?_
   refine Qg.split 17 [(33, .bool ((!(thereS ns ((getH h).1))) || (!(decide (((nd ns (((getH h).1).toNat)).gen) = ((getH h).2.1)))))), (4, .int .i64 0), (5, .int .u32 0), (6, .pointer (some ⟨b2, 0, none⟩))] [blk b2 (.cells #[.int .i64 ((getH h).1), .int .u32 ((getH h).2.1)] 132 (0, 0)), blk b1 (.cells #[.slice p ns.length cap, .int .u32 gen] 25 (0, 0)), base w (Low w)] (s := 22) (g := !(thereS ns ((getH h).1))) rfl (by decide) (fun h4 => ?_) (fun h4 => ?_) ?_
   ·
    refine Qg.skips 16 (by kernel_rfl) ?_
    refine Qg.pure (d := 33) (op := .pick (.tmp 22) (.const (.bool true)) (.tmp 32)) (g := none) (v := .bool true) (by kernel_rfl) (by kernel_rfl) (pv_pick_t rfl rfl) ?_
    exact Qg.mid (.cons (or_of_t h4 rfl) (.cons (rfl) (.cons (rfl) (.cons (rfl) (.nil _))))) rfl
   ·
    have h5 := not_f h4
    have ⟨h6, h7, h8⟩ := thereS_t h5
    refine Qg.pure (d := 23) (op := .fieldAddr 25 (.tmp 2) 0) (g := some (5, false)) (v := .pointer (some ⟨b1, 0 + 0, none⟩)) (by kernel_rfl) (by kernel_rfl) (pv_fieldAddr rfl (n := 0) (by kernel_rfl)) ?_
    refine Qg.pure (d := 24) (op := .load 22 (.tmp 23)) (g := some (5, false)) (v := .slice p ns.length cap) (by kernel_rfl) (by kernel_rfl) (pv_load_blk 1 rfl rfl (by kernel_rfl) rfl) ?_
    refine Qg.pure (d := 25) (op := .fieldAddr 132 (.tmp 6) 0) (g := some (5, false)) (v := .pointer (some ⟨b2, 0 + 0, none⟩)) (by kernel_rfl) (by kernel_rfl) (pv_fieldAddr rfl (n := 0) (by kernel_rfl)) ?_
    refine Qg.pure (d := 26) (op := .load 3 (.tmp 25)) (g := some (5, false)) (v := .int .i64 ((getH h).1)) (by kernel_rfl) (by kernel_rfl) (pv_load_blk 0 rfl rfl (by kernel_rfl) rfl) ?_
    have ⟨q3, o4, hp5⟩ := hT.rows.adr (by omega)
    refine Qg.pure (d := 27) (op := .indexAddr 22 (.tmp 24) (.tmp 26)) (g := some (5, false)) (v := .pointer (some ⟨q3, o4 + ((getH h).1).toNat * 25, none⟩)) (by kernel_rfl) (by kernel_rfl) (pv_indexAddr' rfl hp5 rfl (e := 44) (sz := 25) (by kernel_rfl) (by omega) (by omega)) ?_
    refine Qg.pure (d := 28) (op := .fieldAddr 44 (.tmp 27) 1) (g := some (5, false)) (v := .pointer (some ⟨q3, o4 + ((getH h).1).toNat * 25 + 1, none⟩)) (by kernel_rfl) (by kernel_rfl) (pv_fieldAddr rfl (n := 1) (by kernel_rfl)) ?_
    refine Qg.pure (d := 29) (op := .load 23 (.tmp 28)) (g := some (5, false)) (v := .int .u32 ((nd ns (((getH h).1).toNat)).gen)) (by kernel_rfl) (by kernel_rfl) (pv_load rfl (by kernel_rfl) (fun w hw => ((hT).keep (hw.at_ 2 rfl) (fun _ h => h)).rows.cell _ _ hp5 _ (by omega) 1 (by decide))) ?_
    refine Qg.pure (d := 30) (op := .fieldAddr 132 (.tmp 6) 1) (g := some (5, false)) (v := .pointer (some ⟨b2, 0 + 1, none⟩)) (by kernel_rfl) (by kernel_rfl) (pv_fieldAddr rfl (n := 1) (by kernel_rfl)) ?_
    refine Qg.pure (d := 31) (op := .load 23 (.tmp 30)) (g := some (5, false)) (v := .int .u32 ((getH h).2.1)) (by kernel_rfl) (by kernel_rfl) (pv_load_blk 0 rfl rfl (by kernel_rfl) rfl) ?_
    refine Qg.pure (d := 32) (op := .binOp .neq 23 (.tmp 29) (.tmp 31) 23) (g := some (5, false)) (v := .bool (!(decide (((nd ns (((getH h).1).toNat)).gen) = ((getH h).2.1))))) (by kernel_rfl) (by kernel_rfl) (pv_neq rfl rfl) ?_
    refine Qg.pure (d := 33) (op := .pick (.tmp 22) (.const (.bool true)) (.tmp 32)) (g := none) (v := .bool (!(decide (((nd ns (((getH h).1).toNat)).gen) = ((getH h).2.1))))) (by kernel_rfl) (by kernel_rfl) (pv_pick_f rfl rfl) ?_
    exact Qg.mid (.cons (or_of_f h4 rfl) (.cons (rfl) (.cons (rfl) (.cons (rfl) (.nil _))))) rfl
   refine Qg.pure (d := 16) (op := .assign (.tmp 33)) (g := none) (v := .bool ((!(thereS ns ((getH h).1))) || (!(decide (((nd ns (((getH h).1).toNat)).gen) = ((getH h).2.1)))))) (by kernel_rfl) (by kernel_rfl) (pv_assign rfl) ?_
   exact Qg.mid (.cons rfl (.cons rfl (.cons rfl (.cons rfl (.nil _))))) rfl
  refine At.nx (fun _ _ h => h) [16,6,5,4] rfl ?_
  refine Ev.cd 16 rfl (fun h9 => ?_) (fun h9 => ?_)
  ·
   refine Ev.sr 2 ?_
   refine Rg.ac 4 (.int .i64 0) ?_
   refine Rg.ac 5 (.int .u32 70) ?_
   refine Rg.nx (fun _ _ h => h) [6,5,4] rfl ?_
   refine Ev.rt ?_
   refine At.via (Q := Q) hQ ?_
   refine At.ret2 rfl rfl rfl rfl ?_
   exact fun w hw => ⟨(by unfold findS; rw [if_neg (by simpa using h1), h9]; rfl), hw.base_below 2 rfl⟩
  ·
   have ⟨h10, h11⟩ := or_f h9
   have h12 := not_f h10
   have ⟨h13, h14, h15⟩ := thereS_t h12
   have h16 := of_decide_eq_true (not_f h11)
   refine Ev.sk ?_
   refine At.nx (fun _ _ h => h) [6,5,4] rfl ?_
   refine Ev.sr 4 ?_
   refine Rg.fa 34 132 6 0 0 rfl ?_
   refine Rg.ld 35 3 34 0 rfl rfl rfl ?_
   refine Rg.as 4 35 rfl ?_
   refine Rg.ac 5 (.int .u32 0) ?_
   refine Rg.nx (fun _ _ h => h) [5,4] rfl ?_
   refine Ev.rt ?_
   refine At.via (Q := Q) hQ ?_
   refine At.ret2 rfl rfl rfl rfl ?_
   exact fun w hw => ⟨(by unfold findS; rw [if_neg (by simpa using h1), h9]; rfl), hw.base_below 2 rfl⟩

def hdlE (ns : List Node) (n : Int) : Int := cond (!thereS ns n || decide (1024 < n)) 1 0
def hdlB (ns : List Node) (n : Int) : List Int := cond (!thereS ns n || decide (1024 < n)) [] (hB n (nd ns n.toNat).gen)

set_option maxHeartbeats 8000000 in
theorem Handle_calls {n : Int} {p : Option Addr} {ns : List Node} {al : List Loc} {cap : Nat} {gen : Int} {w : World} (hT : NodesAt (Low w) w p ns al) (hW : NodesWf ns) :
  Calls Try.prog 17 #[.agg #[.slice p ns.length cap, .int .u32 gen], .int .i64 n] w (RetN w (fun x : Option Addr × Nat => (hdlB ns n).length ≤ x.2) (fun x => .tuple #[.slice x.1 (hdlB ns n).length x.2, .int .i64 (hdlE ns n)]) (fun x => [own 5 1 x.1 (hdlB ns n).length x.2 (bv (hdlB ns n))])) := by
 refine calls_ofQ (args := [_, _]) [base w (Low w)] Try.func17 (by kernel_rfl) (by kernel_rfl) (Heap.start w) ?_
 intro Q hQ
 refine Ev.sr 3 ?_
 refine Rg.bx 2 25 (.tmp 0) rfl fun b1 => ?_
 refine Rg.ac 4 (.slice none 0 0) ?_
 refine Rg.ac 5 (.int .i64 0) ?_
 refine Rg.nx (fun _ _ h => h) [5,4,2,1] rfl ?_
 refine Ev.sq ?_
 refine Ev.sr 8 ?_
 refine Rg.p 6 (.load 25 (.tmp 2)) (v := .agg #[.slice p ns.length cap, .int .u32 gen]) (pv_load_blk_whole 0 rfl rfl (by kernel_rfl) (by kernel_rfl)) ?_
 refine Rg.mv 7 1 rfl ?_
 refine Rg.cl (some 8) 54 #[.tmp 6, .tmp 7] #[25, 3] (v := .bool (thereS ns n)) rfl (fun w hw => there_calls ((hT).keep (hw.at_ 1 rfl) (fun k hk => hw.lt 1 rfl hk))) ?_
 refine Rg.p 9 (.unOp .not 4 (.tmp 8)) (pv_not (b := thereS ns n) rfl) ?_
 refine Rg.mv 10 9 rfl ?_
 refine Rg.go 8 13 10 (decide (1024 < n)) rfl (fun h1 => ?_) (fun h1 => ?_) ?_
 ·
  refine Rg.skips 7 (by kernel_rfl) ?_
  refine Rg.p 13 (.pick (.tmp 10) (.const (.bool true)) (.tmp 12)) (pv_pick_t rfl rfl) ?_
  exact Rg.em 10 h1 (ot_t h1) rfl rfl
 ·
  have h2 := not_f h1
  have ⟨h3, h4, h5⟩ := thereS_t h2
  refine Rg.pg 4 false 11 (.move (.tmp 1)) (pv_move rfl) ?_
  refine Rg.pg 4 false 12 (.binOp .gtr 3 (.tmp 11) (.const (.int .i64 1024)) 3) (pv_gtr rfl rfl) ?_
  refine Rg.p 13 (.pick (.tmp 10) (.const (.bool true)) (.tmp 12)) (pv_pick_f rfl rfl) ?_
  exact Rg.em 10 h1 (ot_f h1) rfl rfl
 refine Rg.nx (fun _ _ h => h) [13,5,4,2,1] rfl ?_
 refine Ev.cd 13 rfl (fun h6 => ?_) (fun h6 => ?_)
 ·
  refine Ev.sr 2 ?_
  refine Rg.ac 4 (.slice none 0 0) ?_
  refine Rg.ac 5 (.int .i64 1) ?_
  refine Rg.nx (fun _ _ h => h) [5,4,2,1] rfl ?_
  refine Ev.rt ?_
  refine At.via (Q := Q) hQ ?_
  refine At.ret2 rfl rfl rfl rfl ?_
  have e1_ := h6
  exact fun w hw => ⟨(none, 0), (by unfold hdlB; rw [e1_]; exact Nat.le_refl _), (by unfold hdlB hdlE; rw [e1_]; rfl), (by unfold hdlB; rw [e1_]; exact (hw.ownNil 5 1).pick [0, 2] (by decide))⟩
 ·
  have ⟨h7, h8⟩ := or_f h6
  have h9 := not_f h7
  have ⟨h10, h11, h12⟩ := thereS_t h9
  have h13 := of_decide_eq_false h8
  refine Ev.sk ?_
  refine At.nx (fun _ _ h => h) [5,4,2,1] rfl ?_
  refine Ev.sr 13 ?_
  refine Rg.mv 14 1 rfl ?_
  refine Rg.fa 15 25 2 0 0 rfl ?_
  refine Rg.ld 16 22 15 0 rfl rfl rfl ?_
  refine Rg.mv 17 1 rfl ?_
  have ⟨q2, o3, hp4⟩ := hT.rows.adr (by omega)
  refine Rg.p 18 (.indexAddr 22 (.tmp 16) (.tmp 17)) (v := .pointer (some ⟨q2, o3 + (n).toNat * 25, none⟩)) (pv_indexAddr' rfl hp4 rfl (e := 44) (sz := 25) (by kernel_rfl) (by omega) (by omega)) ?_
  refine Rg.fa 19 44 18 1 1 rfl ?_
  refine Rg.p 20 (.load 23 (.tmp 19)) (v := .int .u32 ((nd ns ((n).toNat)).gen)) (pv_load rfl (by kernel_rfl) (fun w hw => ((hT).keep (hw.at_ 1 rfl) (fun _ h => h)).rows.cell _ _ hp4 _ (by omega) 1 (by decide))) ?_
  refine Rg.p 21 (.build 132 #[(0, .tmp 14), (1, .tmp 20)]) (v := .agg #[.int .i64 n, .int .u32 ((nd ns ((n).toNat)).gen)]) (pv_build (parts := [(0, .tmp 14), (1, .tmp 20)]) (vs := [.int .i64 n, .int .u32 ((nd ns ((n).toNat)).gen)]) (fs := [(0, 1), (1, 1)]) (zv := .agg #[.int .i64 0, .int .u32 0]) (cs := #[.int .i64 n, .int .u32 ((nd ns ((n).toNat)).gen)]) rfl (by kernel_rfl) (by kernel_rfl) (by kernel_rfl)) ?_
  refine Rg.cn (T := Option Addr × Nat) (some 22) 61 #[.tmp 21] #[132] (v := fun ⟨p5, c6⟩ => .tuple #[.slice p5 16 c6, .int .i64 0]) (L := fun ⟨p5, c6⟩ => [own 5 1 p5 16 c6 (bv (hB n ((nd ns ((n).toNat)).gen)))]) rfl (fun w hw => hPut_calls (by omega) (by omega)) ?_
  rintro ⟨p5, c6⟩ hc_c6
  dsimp only [putE, List.append, HAppend.hAppend, Append.append]
  have hk_c6 : 16 ≤ c6 := hc_c6
  refine Rg.ex 23 22 0 rfl rfl ?_
  refine Rg.ex 24 22 1 rfl rfl ?_
  refine Rg.as 4 23 rfl ?_
  refine Rg.as 5 24 rfl ?_
  refine Rg.nx (fun _ _ h => h) [5,4] rfl ?_
  refine Ev.rt ?_
  refine At.via (Q := Q) hQ ?_
  refine At.ret2 rfl rfl rfl rfl ?_
  have e1_ := h6
  exact fun w hw => ⟨(p5, c6), (by unfold hdlB; rw [e1_]; exact hk_c6), (by unfold hdlB hdlE; rw [e1_]; rfl), (by unfold hdlB; rw [e1_]; exact hw.pick [0, 2] (by decide))⟩

def sizeL (n : Node) : List (Int × Int) := upd (upd [] 1 (n.data.length : Int)) 5 (n.target.size : Int)
def sizeS (n : Node) : Int := cond (!(look (sizeL n) n.kind).isSome) (32 * (n.list.length : Int)) ((look (sizeL n) n.kind).getD 0)
def attrsC (n : Node) (i : Int) : Array Value := #[.int .u32 n.kind, .int .u32 n.mode, .int .u32 (IntKind.u32.wrap n.links), .int .u32 n.user, .int .u32 n.group, .int .u64 (IntKind.u64.wrap (sizeS n)), .int .u64 (IntKind.u64.wrap (sizeS n)), .int .u64 (IntKind.u64.wrap i),
  .int .u32 n.rs, .int .u32 n.rn, .int .u32 n.ws, .int .u32 n.wn, .int .u32 n.ts, .int .u32 n.tn]
def attrs0 : Array Value := #[.int .u32 0, .int .u32 0, .int .u32 0, .int .u32 0, .int .u32 0, .int .u64 0, .int .u64 0, .int .u64 0, .int .u32 0, .int .u32 0, .int .u32 0, .int .u32 0, .int .u32 0, .int .u32 0]
def attrsS (ns : List Node) (n : Int) : Array Value := cond (!thereS ns n) attrs0 (attrsC (nd ns n.toNat) n)

set_option maxHeartbeats 8000000 in
theorem Attrs_calls {n : Int} {p : Option Addr} {ns : List Node} {al : List Loc} {cap : Nat} {gen : Int} {w : World} (hT : NodesAt (Low w) w p ns al) (hW : NodesWf ns) :
  Calls Try.prog 18 #[.agg #[.slice p ns.length cap, .int .u32 gen], .int .i64 n] w (Ret w (.tuple #[.agg (attrsS ns n), .bool (thereS ns n)])) := by
 refine calls_ofQ (args := [_, _]) [base w (Low w)] Try.func18 (by kernel_rfl) (by kernel_rfl) (Heap.start w) ?_
 intro Q hQ
 have hlen := hW.len
 have htg := (hW.node n.toNat).target
 have hlg := (hW.node n.toNat).list
 refine Ev.sr 3 ?_
 refine Rg.bx 2 25 (.tmp 0) rfl fun b1 => ?_
 refine Rg.al 4 38 (.agg #[.int .u32 0, .int .u32 0, .int .u32 0, .int .u32 0, .int .u32 0, .int .u64 0, .int .u64 0, .int .u64 0, .int .u32 0, .int .u32 0, .int .u32 0, .int .u32 0, .int .u32 0, .int .u32 0]) fun b2 => ?_
 refine Rg.ac 5 (.bool false) ?_
 refine Rg.nx (fun _ _ h => h) [5,4,2,1] rfl ?_
 refine Ev.sq ?_
 refine Ev.sr 4 ?_
 refine Rg.p 10 (.load 25 (.tmp 2)) (v := .agg #[.slice p ns.length cap, .int .u32 gen]) (pv_load_blk_whole 1 rfl rfl (by kernel_rfl) (by kernel_rfl)) ?_
 refine Rg.mv 11 1 rfl ?_
 refine Rg.cl (some 12) 54 #[.tmp 10, .tmp 11] #[25, 3] (v := .bool (thereS ns n)) rfl (fun w hw => there_calls ((hT).keep (hw.at_ 2 rfl) (fun k hk => hw.lt 2 rfl hk))) ?_
 refine Rg.p 13 (.unOp .not 4 (.tmp 12)) (pv_not (b := thereS ns n) rfl) ?_
 refine Rg.nx (fun _ _ h => h) [13,5,4,2,1] rfl ?_
 refine Ev.cd 13 rfl (fun h1 => ?_) (fun h1 => ?_)
 ·
  have h2 := not_t h1
  refine Ev.sr 3 ?_
  refine Rg.p 14 (.build 38 #[]) (v := .agg #[.int .u32 0, .int .u32 0, .int .u32 0, .int .u32 0, .int .u32 0, .int .u64 0, .int .u64 0, .int .u64 0, .int .u32 0, .int .u32 0, .int .u32 0, .int .u32 0, .int .u32 0, .int .u32 0]) (pv_build (parts := []) (vs := []) (fs := [(0, 1), (1, 1), (2, 1), (3, 1), (4, 1), (5, 1), (6, 1), (7, 1), (8, 2), (10, 2), (12, 2)]) (zv := .agg #[.int .u32 0, .int .u32 0, .int .u32 0, .int .u32 0, .int .u32 0, .int .u64 0, .int .u64 0, .int .u64 0, .int .u32 0, .int .u32 0, .int .u32 0, .int .u32 0, .int .u32 0, .int .u32 0]) (cs := #[.int .u32 0, .int .u32 0, .int .u32 0, .int .u32 0, .int .u32 0, .int .u64 0, .int .u64 0, .int .u64 0, .int .u32 0, .int .u32 0, .int .u32 0, .int .u32 0, .int .u32 0, .int .u32 0]) rfl (by kernel_rfl) (by kernel_rfl) (by kernel_rfl)) ?_
  refine Rg.st 38 4 (.tmp 14) 0 #[.int .u32 0, .int .u32 0, .int .u32 0, .int .u32 0, .int .u32 0, .int .u64 0, .int .u64 0, .int .u64 0, .int .u32 0, .int .u32 0, .int .u32 0, .int .u32 0, .int .u32 0, .int .u32 0] rfl rfl rfl ?_
  refine Rg.ac 5 (.bool false) ?_
  refine Rg.nx (fun _ _ h => h) [5,4,2,1] rfl ?_
  refine Ev.rt ?_
  refine At.via (Q := Q) hQ ?_
  refine At.retCell2 rfl rfl (reads_cellA 0 rfl rfl (by kernel_rfl) (by kernel_rfl)) (reads_tmp rfl) ?_
  exact fun w hw => ⟨(by unfold attrsS; rw [(show thereS ns n = false by simpa using h1)]; rfl), hw.base_below 2 rfl⟩
 ·
  have h3 := not_f h1
  have ⟨h4, h5, h6⟩ := thereS_t h3
  refine Ev.sk ?_
  refine At.nx (fun _ _ h => h) [5,4,2,1] rfl ?_
  refine Ev.sr 7 ?_
  refine Rg.fa 15 25 2 0 0 rfl ?_
  refine Rg.ld 16 22 15 1 rfl rfl rfl ?_
  refine Rg.mv 17 1 rfl ?_
  have ⟨q3, o4, hp5⟩ := hT.rows.adr (by omega)
  refine Rg.p 18 (.indexAddr 22 (.tmp 16) (.tmp 17)) (v := .pointer (some ⟨q3, o4 + (n).toNat * 25, none⟩)) (pv_indexAddr' rfl hp5 rfl (e := 44) (sz := 25) (by kernel_rfl) (by omega) (by omega)) ?_
  refine Rg.p 19 (.load 44 (.tmp 18)) (v := .agg ((nd ns ((n).toNat)).cells (lc al ((n).toNat)))) (pv_load_node (i := (n).toNat) (ns := ns) rfl hp5 (by omega) (by kernel_rfl) (by kernel_rfl) (fun w hw => ((hT).keep (hw.at_ 2 rfl) (fun k hk => hw.lt 2 rfl hk)))) ?_
  refine Rg.al 6 44 (.agg #[.int .u32 0, .int .u32 0, .int .u32 0, .int .u32 0, .int .u32 0, .int .i64 0, .int .u32 0, .int .u32 0, .int .u32 0, .int .u32 0, .int .u32 0, .int .u32 0, .slice none 0 0, .int .u8 0, .int .u8 0, .int .u8 0, .int .u8 0, .int .u8 0, .int .u8 0, .int .u8 0, .int .u8 0, .string ⟨#[]⟩, .slice none 0 0, .int .i64 0, .int .u64 0]) fun b6 => ?_
  refine Rg.st 44 6 (.tmp 19) 0 ((nd ns ((n).toNat)).cells (lc al ((n).toNat))) rfl rfl rfl ?_
  refine Rg.nx (fun _ _ h => h) [6,5,4,1] rfl ?_
  refine Ev.sr 11 ?_
  refine rg_makeMap (d := 20) (t := 133) (g := none) (intKey .u32) (by kernel_rfl) (by kernel_rfl) ?_
  intro r7
  refine Rg.fa 21 44 6 9 12 rfl ?_
  refine Rg.ld 22 29 21 1 rfl rfl rfl ?_
  refine Rg.p 23 (.call { callee := .builtin .len, args := #[.tmp 22], argTypes := #[29] }) (pv_len_slice rfl (by kernel_rfl)) ?_
  refine rg_insert (t := 133) (x := .tmp 20) (y := .const (.int .u32 1)) (z := .tmp 23) (kt := 33) (et := 3) (g := none) (intKey .u32) 0 (by kernel_rfl) (by kernel_rfl) rfl rfl rfl (by kernel_rfl) (by kernel_rfl) rfl ?_
  refine Rg.fa 24 44 6 11 21 rfl ?_
  refine Rg.ld 25 9 24 1 rfl rfl rfl ?_
  refine Rg.p 26 (.call { callee := .builtin .len, args := #[.tmp 25], argTypes := #[9] }) (pv_len_string rfl (by kernel_rfl)) ?_
  refine rg_insert (t := 133) (x := .tmp 20) (y := .const (.int .u32 5)) (z := .tmp 26) (kt := 33) (et := 3) (g := none) (intKey .u32) 0 (by kernel_rfl) (by kernel_rfl) rfl rfl rfl (by kernel_rfl) (by kernel_rfl) rfl ?_
  refine Rg.mv 27 20 rfl ?_
  refine Rg.as 7 27 rfl ?_
  refine Rg.nx (fun _ _ h => h) [7,6,5,4,1] rfl ?_
  refine Ev.sr 9 ?_
  refine Rg.mv 29 7 rfl ?_
  refine Rg.fa 30 44 6 0 0 rfl ?_
  refine Rg.ld 31 33 30 1 rfl rfl rfl ?_
  refine Rg.p 32 (.lookup 133 (.tmp 29) (.tmp 31) true) (v := .tuple #[.int .i64 ((look (upd (upd [] 1 ((nd ns ((n).toNat)).data.length : Int)) 5 (((nd ns ((n).toNat)).target).size : Int) : List (Int × Int)) ((nd ns ((n).toNat)).kind)).getD 0), .bool ((look (upd (upd [] 1 ((nd ns ((n).toNat)).data.length : Int)) 5 (((nd ns ((n).toNat)).target).size : Int) : List (Int × Int)) ((nd ns ((n).toNat)).kind)).isSome)]) (pv_lookup_ok (kt := 33) (et := 3) (intKey .u32) 0 rfl rfl (by kernel_rfl) (by kernel_rfl) (by kernel_rfl) rfl) ?_
  refine Rg.mv 28 32 rfl ?_
  refine Rg.ex 33 28 0 rfl rfl ?_
  refine Rg.ex 34 28 1 rfl rfl ?_
  refine Rg.as 8 33 rfl ?_
  refine Rg.as 9 34 rfl ?_
  refine Rg.nx (fun _ _ h => h) [9,8,6,5,4,1] rfl ?_
  refine Ev.sq ?_
  refine Ev.sr 2 ?_
  refine Rg.mv 35 9 rfl ?_
  refine Rg.p 36 (.unOp .not 4 (.tmp 35)) (pv_not (b := (look (upd (upd [] 1 ((nd ns ((n).toNat)).data.length : Int)) 5 (((nd ns ((n).toNat)).target).size : Int) : List (Int × Int)) ((nd ns ((n).toNat)).kind)).isSome) rfl) ?_
  refine Rg.nx (fun _ _ h => h) [36,8,6,5,4,1] rfl ?_
  refine Ev.cd 36 rfl (fun h7 => ?_) (fun h7 => ?_)
  ·
   have h8 := not_t h7
   refine Ev.rg 5 ?_
   refine Rg.fa 37 44 6 12 22 rfl ?_
   refine Rg.ld 38 42 37 1 rfl rfl rfl ?_
   refine Rg.p 39 (.call { callee := .builtin .len, args := #[.tmp 38], argTypes := #[42] }) (pv_len_slice rfl (by kernel_rfl)) ?_
   refine Rg.p 40 (.binOp .mul 3 (.const (.int .i64 32)) (.tmp 39) 3) (pv_mulb rfl rfl (in_i64 (by omega) (by omega))) ?_
   refine Rg.as 8 40 rfl ?_
   refine Rg.nx (fun _ _ h => h) [8,6,5,4,1] rfl ?_
   refine Ev.sr 26 ?_
   refine Rg.fa 41 44 6 0 0 rfl ?_
   refine Rg.ld 42 33 41 1 rfl rfl rfl ?_
   refine Rg.fa 43 44 6 2 2 rfl ?_
   refine Rg.ld 44 23 43 1 rfl rfl rfl ?_
   refine Rg.fa 45 44 6 5 5 rfl ?_
   refine Rg.ld 46 3 45 1 rfl rfl rfl ?_
   refine Rg.p 47 (.convert 3 23 (.tmp 46)) (pv_convert (q' := .u32) rfl (by kernel_rfl) (by kernel_rfl)) ?_
   refine Rg.fa 48 44 6 3 3 rfl ?_
   refine Rg.ld 49 23 48 1 rfl rfl rfl ?_
   refine Rg.fa 50 44 6 4 4 rfl ?_
   refine Rg.ld 51 23 50 1 rfl rfl rfl ?_
   refine Rg.mv 52 8 rfl ?_
   refine Rg.p 53 (.convert 3 34 (.tmp 52)) (pv_convert (q' := .u64) rfl (by kernel_rfl) (by kernel_rfl)) ?_
   refine Rg.mv 54 8 rfl ?_
   refine Rg.p 55 (.convert 3 34 (.tmp 54)) (pv_convert (q' := .u64) rfl (by kernel_rfl) (by kernel_rfl)) ?_
   refine Rg.mv 56 1 rfl ?_
   refine Rg.p 57 (.convert 3 34 (.tmp 56)) (pv_convert (q' := .u64) rfl (by kernel_rfl) (by kernel_rfl)) ?_
   refine Rg.fa 58 44 6 6 6 rfl ?_
   refine Rg.p 59 (.load 36 (.tmp 58)) (v := .agg #[.int .u32 ((nd ns ((n).toNat)).rs), .int .u32 ((nd ns ((n).toNat)).rn)]) (pv_load_blk_agg 1 rfl rfl (vs := #[.int .u32 ((nd ns ((n).toNat)).rs), .int .u32 ((nd ns ((n).toNat)).rn)]) (by kernel_rfl) (by kernel_rfl) (agg_rfl (by kernel_rfl))) ?_
   refine Rg.fa 60 44 6 7 8 rfl ?_
   refine Rg.p 61 (.load 36 (.tmp 60)) (v := .agg #[.int .u32 ((nd ns ((n).toNat)).ws), .int .u32 ((nd ns ((n).toNat)).wn)]) (pv_load_blk_agg 1 rfl rfl (vs := #[.int .u32 ((nd ns ((n).toNat)).ws), .int .u32 ((nd ns ((n).toNat)).wn)]) (by kernel_rfl) (by kernel_rfl) (agg_rfl (by kernel_rfl))) ?_
   refine Rg.fa 62 44 6 8 10 rfl ?_
   refine Rg.p 63 (.load 36 (.tmp 62)) (v := .agg #[.int .u32 ((nd ns ((n).toNat)).ts), .int .u32 ((nd ns ((n).toNat)).tn)]) (pv_load_blk_agg 1 rfl rfl (vs := #[.int .u32 ((nd ns ((n).toNat)).ts), .int .u32 ((nd ns ((n).toNat)).tn)]) (by kernel_rfl) (by kernel_rfl) (agg_rfl (by kernel_rfl))) ?_
   refine Rg.p 64 (.build 38 #[(0, .tmp 42), (1, .tmp 44), (2, .tmp 47), (3, .tmp 49), (4, .tmp 51), (5, .tmp 53), (6, .tmp 55), (7, .tmp 57), (8, .tmp 59), (9, .tmp 61), (10, .tmp 63)]) (v := .agg #[.int .u32 ((nd ns ((n).toNat)).kind), .int .u32 ((nd ns ((n).toNat)).mode), .int .u32 (IntKind.u32.wrap ((nd ns ((n).toNat)).links)), .int .u32 ((nd ns ((n).toNat)).user), .int .u32 ((nd ns ((n).toNat)).group), .int .u64 (IntKind.u64.wrap (32 * ((nd ns ((n).toNat)).list.length : Int))), .int .u64 (IntKind.u64.wrap (32 * ((nd ns ((n).toNat)).list.length : Int))), .int .u64 (IntKind.u64.wrap n), .int .u32 ((nd ns ((n).toNat)).rs), .int .u32 ((nd ns ((n).toNat)).rn), .int .u32 ((nd ns ((n).toNat)).ws), .int .u32 ((nd ns ((n).toNat)).wn), .int .u32 ((nd ns ((n).toNat)).ts), .int .u32 ((nd ns ((n).toNat)).tn)]) (pv_build (parts := [(0, .tmp 42), (1, .tmp 44), (2, .tmp 47), (3, .tmp 49), (4, .tmp 51), (5, .tmp 53), (6, .tmp 55), (7, .tmp 57), (8, .tmp 59), (9, .tmp 61), (10, .tmp 63)]) (vs := [.int .u32 ((nd ns ((n).toNat)).kind), .int .u32 ((nd ns ((n).toNat)).mode), .int .u32 (IntKind.u32.wrap ((nd ns ((n).toNat)).links)), .int .u32 ((nd ns ((n).toNat)).user), .int .u32 ((nd ns ((n).toNat)).group), .int .u64 (IntKind.u64.wrap (32 * ((nd ns ((n).toNat)).list.length : Int))), .int .u64 (IntKind.u64.wrap (32 * ((nd ns ((n).toNat)).list.length : Int))), .int .u64 (IntKind.u64.wrap n), .agg #[.int .u32 ((nd ns ((n).toNat)).rs), .int .u32 ((nd ns ((n).toNat)).rn)], .agg #[.int .u32 ((nd ns ((n).toNat)).ws), .int .u32 ((nd ns ((n).toNat)).wn)], .agg #[.int .u32 ((nd ns ((n).toNat)).ts), .int .u32 ((nd ns ((n).toNat)).tn)]]) (fs := [(0, 1), (1, 1), (2, 1), (3, 1), (4, 1), (5, 1), (6, 1), (7, 1), (8, 2), (10, 2), (12, 2)]) (zv := .agg #[.int .u32 0, .int .u32 0, .int .u32 0, .int .u32 0, .int .u32 0, .int .u64 0, .int .u64 0, .int .u64 0, .int .u32 0, .int .u32 0, .int .u32 0, .int .u32 0, .int .u32 0, .int .u32 0]) (cs := #[.int .u32 ((nd ns ((n).toNat)).kind), .int .u32 ((nd ns ((n).toNat)).mode), .int .u32 (IntKind.u32.wrap ((nd ns ((n).toNat)).links)), .int .u32 ((nd ns ((n).toNat)).user), .int .u32 ((nd ns ((n).toNat)).group), .int .u64 (IntKind.u64.wrap (32 * ((nd ns ((n).toNat)).list.length : Int))), .int .u64 (IntKind.u64.wrap (32 * ((nd ns ((n).toNat)).list.length : Int))), .int .u64 (IntKind.u64.wrap n), .int .u32 ((nd ns ((n).toNat)).rs), .int .u32 ((nd ns ((n).toNat)).rn), .int .u32 ((nd ns ((n).toNat)).ws), .int .u32 ((nd ns ((n).toNat)).wn), .int .u32 ((nd ns ((n).toNat)).ts), .int .u32 ((nd ns ((n).toNat)).tn)]) rfl (by kernel_rfl) (by kernel_rfl) (by kernel_rfl)) ?_
   refine Rg.st 38 4 (.tmp 64) 2 #[.int .u32 ((nd ns ((n).toNat)).kind), .int .u32 ((nd ns ((n).toNat)).mode), .int .u32 (IntKind.u32.wrap ((nd ns ((n).toNat)).links)), .int .u32 ((nd ns ((n).toNat)).user), .int .u32 ((nd ns ((n).toNat)).group), .int .u64 (IntKind.u64.wrap (32 * ((nd ns ((n).toNat)).list.length : Int))), .int .u64 (IntKind.u64.wrap (32 * ((nd ns ((n).toNat)).list.length : Int))), .int .u64 (IntKind.u64.wrap n), .int .u32 ((nd ns ((n).toNat)).rs), .int .u32 ((nd ns ((n).toNat)).rn), .int .u32 ((nd ns ((n).toNat)).ws), .int .u32 ((nd ns ((n).toNat)).wn), .int .u32 ((nd ns ((n).toNat)).ts), .int .u32 ((nd ns ((n).toNat)).tn)] rfl rfl rfl ?_
   refine Rg.ac 5 (.bool true) ?_
   refine Rg.nx (fun _ _ h => h) [5,4] rfl ?_
   refine Ev.rt ?_
   refine At.via (Q := Q) hQ ?_
   refine At.retCell2 rfl rfl (reads_cellA 2 rfl rfl (by kernel_rfl) (by kernel_rfl)) (reads_tmp rfl) ?_
   exact fun w hw => ⟨(by unfold attrsS attrsC sizeS; rw [(show thereS ns n = true by simpa using h1)]; (have e2_ := h7); unfold sizeL; rw [e2_]; rfl), hw.base_below 4 rfl⟩
  ·
   have h9 := not_f h7
   refine Ev.sk ?_
   refine At.nx (fun _ _ h => h) [8,6,5,4,1] rfl ?_
   refine Ev.sr 26 ?_
   refine Rg.fa 41 44 6 0 0 rfl ?_
   refine Rg.ld 42 33 41 1 rfl rfl rfl ?_
   refine Rg.fa 43 44 6 2 2 rfl ?_
   refine Rg.ld 44 23 43 1 rfl rfl rfl ?_
   refine Rg.fa 45 44 6 5 5 rfl ?_
   refine Rg.ld 46 3 45 1 rfl rfl rfl ?_
   refine Rg.p 47 (.convert 3 23 (.tmp 46)) (pv_convert (q' := .u32) rfl (by kernel_rfl) (by kernel_rfl)) ?_
   refine Rg.fa 48 44 6 3 3 rfl ?_
   refine Rg.ld 49 23 48 1 rfl rfl rfl ?_
   refine Rg.fa 50 44 6 4 4 rfl ?_
   refine Rg.ld 51 23 50 1 rfl rfl rfl ?_
   refine Rg.mv 52 8 rfl ?_
   refine Rg.p 53 (.convert 3 34 (.tmp 52)) (pv_convert (q' := .u64) rfl (by kernel_rfl) (by kernel_rfl)) ?_
   refine Rg.mv 54 8 rfl ?_
   refine Rg.p 55 (.convert 3 34 (.tmp 54)) (pv_convert (q' := .u64) rfl (by kernel_rfl) (by kernel_rfl)) ?_
   refine Rg.mv 56 1 rfl ?_
   refine Rg.p 57 (.convert 3 34 (.tmp 56)) (pv_convert (q' := .u64) rfl (by kernel_rfl) (by kernel_rfl)) ?_
   refine Rg.fa 58 44 6 6 6 rfl ?_
   refine Rg.p 59 (.load 36 (.tmp 58)) (v := .agg #[.int .u32 ((nd ns ((n).toNat)).rs), .int .u32 ((nd ns ((n).toNat)).rn)]) (pv_load_blk_agg 1 rfl rfl (vs := #[.int .u32 ((nd ns ((n).toNat)).rs), .int .u32 ((nd ns ((n).toNat)).rn)]) (by kernel_rfl) (by kernel_rfl) (agg_rfl (by kernel_rfl))) ?_
   refine Rg.fa 60 44 6 7 8 rfl ?_
   refine Rg.p 61 (.load 36 (.tmp 60)) (v := .agg #[.int .u32 ((nd ns ((n).toNat)).ws), .int .u32 ((nd ns ((n).toNat)).wn)]) (pv_load_blk_agg 1 rfl rfl (vs := #[.int .u32 ((nd ns ((n).toNat)).ws), .int .u32 ((nd ns ((n).toNat)).wn)]) (by kernel_rfl) (by kernel_rfl) (agg_rfl (by kernel_rfl))) ?_
   refine Rg.fa 62 44 6 8 10 rfl ?_
   refine Rg.p 63 (.load 36 (.tmp 62)) (v := .agg #[.int .u32 ((nd ns ((n).toNat)).ts), .int .u32 ((nd ns ((n).toNat)).tn)]) (pv_load_blk_agg 1 rfl rfl (vs := #[.int .u32 ((nd ns ((n).toNat)).ts), .int .u32 ((nd ns ((n).toNat)).tn)]) (by kernel_rfl) (by kernel_rfl) (agg_rfl (by kernel_rfl))) ?_
   refine Rg.p 64 (.build 38 #[(0, .tmp 42), (1, .tmp 44), (2, .tmp 47), (3, .tmp 49), (4, .tmp 51), (5, .tmp 53), (6, .tmp 55), (7, .tmp 57), (8, .tmp 59), (9, .tmp 61), (10, .tmp 63)]) (v := .agg #[.int .u32 ((nd ns ((n).toNat)).kind), .int .u32 ((nd ns ((n).toNat)).mode), .int .u32 (IntKind.u32.wrap ((nd ns ((n).toNat)).links)), .int .u32 ((nd ns ((n).toNat)).user), .int .u32 ((nd ns ((n).toNat)).group), .int .u64 (IntKind.u64.wrap ((look (upd (upd [] 1 ((nd ns ((n).toNat)).data.length : Int)) 5 (((nd ns ((n).toNat)).target).size : Int) : List (Int × Int)) ((nd ns ((n).toNat)).kind)).getD 0)), .int .u64 (IntKind.u64.wrap ((look (upd (upd [] 1 ((nd ns ((n).toNat)).data.length : Int)) 5 (((nd ns ((n).toNat)).target).size : Int) : List (Int × Int)) ((nd ns ((n).toNat)).kind)).getD 0)), .int .u64 (IntKind.u64.wrap n), .int .u32 ((nd ns ((n).toNat)).rs), .int .u32 ((nd ns ((n).toNat)).rn), .int .u32 ((nd ns ((n).toNat)).ws), .int .u32 ((nd ns ((n).toNat)).wn), .int .u32 ((nd ns ((n).toNat)).ts), .int .u32 ((nd ns ((n).toNat)).tn)]) (pv_build (parts := [(0, .tmp 42), (1, .tmp 44), (2, .tmp 47), (3, .tmp 49), (4, .tmp 51), (5, .tmp 53), (6, .tmp 55), (7, .tmp 57), (8, .tmp 59), (9, .tmp 61), (10, .tmp 63)]) (vs := [.int .u32 ((nd ns ((n).toNat)).kind), .int .u32 ((nd ns ((n).toNat)).mode), .int .u32 (IntKind.u32.wrap ((nd ns ((n).toNat)).links)), .int .u32 ((nd ns ((n).toNat)).user), .int .u32 ((nd ns ((n).toNat)).group), .int .u64 (IntKind.u64.wrap ((look (upd (upd [] 1 ((nd ns ((n).toNat)).data.length : Int)) 5 (((nd ns ((n).toNat)).target).size : Int) : List (Int × Int)) ((nd ns ((n).toNat)).kind)).getD 0)), .int .u64 (IntKind.u64.wrap ((look (upd (upd [] 1 ((nd ns ((n).toNat)).data.length : Int)) 5 (((nd ns ((n).toNat)).target).size : Int) : List (Int × Int)) ((nd ns ((n).toNat)).kind)).getD 0)), .int .u64 (IntKind.u64.wrap n), .agg #[.int .u32 ((nd ns ((n).toNat)).rs), .int .u32 ((nd ns ((n).toNat)).rn)], .agg #[.int .u32 ((nd ns ((n).toNat)).ws), .int .u32 ((nd ns ((n).toNat)).wn)], .agg #[.int .u32 ((nd ns ((n).toNat)).ts), .int .u32 ((nd ns ((n).toNat)).tn)]]) (fs := [(0, 1), (1, 1), (2, 1), (3, 1), (4, 1), (5, 1), (6, 1), (7, 1), (8, 2), (10, 2), (12, 2)]) (zv := .agg #[.int .u32 0, .int .u32 0, .int .u32 0, .int .u32 0, .int .u32 0, .int .u64 0, .int .u64 0, .int .u64 0, .int .u32 0, .int .u32 0, .int .u32 0, .int .u32 0, .int .u32 0, .int .u32 0]) (cs := #[.int .u32 ((nd ns ((n).toNat)).kind), .int .u32 ((nd ns ((n).toNat)).mode), .int .u32 (IntKind.u32.wrap ((nd ns ((n).toNat)).links)), .int .u32 ((nd ns ((n).toNat)).user), .int .u32 ((nd ns ((n).toNat)).group), .int .u64 (IntKind.u64.wrap ((look (upd (upd [] 1 ((nd ns ((n).toNat)).data.length : Int)) 5 (((nd ns ((n).toNat)).target).size : Int) : List (Int × Int)) ((nd ns ((n).toNat)).kind)).getD 0)), .int .u64 (IntKind.u64.wrap ((look (upd (upd [] 1 ((nd ns ((n).toNat)).data.length : Int)) 5 (((nd ns ((n).toNat)).target).size : Int) : List (Int × Int)) ((nd ns ((n).toNat)).kind)).getD 0)), .int .u64 (IntKind.u64.wrap n), .int .u32 ((nd ns ((n).toNat)).rs), .int .u32 ((nd ns ((n).toNat)).rn), .int .u32 ((nd ns ((n).toNat)).ws), .int .u32 ((nd ns ((n).toNat)).wn), .int .u32 ((nd ns ((n).toNat)).ts), .int .u32 ((nd ns ((n).toNat)).tn)]) rfl (by kernel_rfl) (by kernel_rfl) (by kernel_rfl)) ?_
   refine Rg.st 38 4 (.tmp 64) 2 #[.int .u32 ((nd ns ((n).toNat)).kind), .int .u32 ((nd ns ((n).toNat)).mode), .int .u32 (IntKind.u32.wrap ((nd ns ((n).toNat)).links)), .int .u32 ((nd ns ((n).toNat)).user), .int .u32 ((nd ns ((n).toNat)).group), .int .u64 (IntKind.u64.wrap ((look (upd (upd [] 1 ((nd ns ((n).toNat)).data.length : Int)) 5 (((nd ns ((n).toNat)).target).size : Int) : List (Int × Int)) ((nd ns ((n).toNat)).kind)).getD 0)), .int .u64 (IntKind.u64.wrap ((look (upd (upd [] 1 ((nd ns ((n).toNat)).data.length : Int)) 5 (((nd ns ((n).toNat)).target).size : Int) : List (Int × Int)) ((nd ns ((n).toNat)).kind)).getD 0)), .int .u64 (IntKind.u64.wrap n), .int .u32 ((nd ns ((n).toNat)).rs), .int .u32 ((nd ns ((n).toNat)).rn), .int .u32 ((nd ns ((n).toNat)).ws), .int .u32 ((nd ns ((n).toNat)).wn), .int .u32 ((nd ns ((n).toNat)).ts), .int .u32 ((nd ns ((n).toNat)).tn)] rfl rfl rfl ?_
   refine Rg.ac 5 (.bool true) ?_
   refine Rg.nx (fun _ _ h => h) [5,4] rfl ?_
   refine Ev.rt ?_
   refine At.via (Q := Q) hQ ?_
   refine At.retCell2 rfl rfl (reads_cellA 2 rfl rfl (by kernel_rfl) (by kernel_rfl)) (reads_tmp rfl) ?_
   exact fun w hw => ⟨(by unfold attrsS attrsC sizeS; rw [(show thereS ns n = true by simpa using h1)]; (have e2_ := h7); unfold sizeL; rw [e2_]; rfl), hw.base_below 4 rfl⟩

def attrKind (ns : List Node) (n : Int) : Int := cond (!thereS ns n) 0 (nd ns n.toNat).kind
def attrLinks (ns : List Node) (n : Int) : Int := cond (!thereS ns n) 0 (IntKind.u32.wrap (nd ns n.toNat).links)
def attrSize (ns : List Node) (n : Int) : Int := cond (!thereS ns n) 0 (IntKind.u64.wrap (sizeS (nd ns n.toNat)))
def attrID (ns : List Node) (n : Int) : Int := cond (!thereS ns n) 0 (IntKind.u64.wrap n)
theorem attrs_0 (ns : List Node) (n : Int) : (attrsS ns n)[0]? = some (.int .u32 (attrKind ns n)) := by unfold attrsS attrKind; cases thereS ns n <;> rfl
theorem attrs_2 (ns : List Node) (n : Int) : (attrsS ns n)[2]? = some (.int .u32 (attrLinks ns n)) := by unfold attrsS attrLinks; cases thereS ns n <;> rfl
theorem attrs_5 (ns : List Node) (n : Int) : (attrsS ns n)[5]? = some (.int .u64 (attrSize ns n)) := by unfold attrsS attrSize; cases thereS ns n <;> rfl
theorem attrs_7 (ns : List Node) (n : Int) : (attrsS ns n)[7]? = some (.int .u64 (attrID ns n)) := by unfold attrsS attrID; cases thereS ns n <;> rfl
theorem attrs_size (ns : List Node) (n : Int) : (attrsS ns n).size = 14 := by unfold attrsS; cases thereS ns n <;> rfl
theorem attrs_one (ns : List Node) (n : Int) : ((attrsS ns n).toList.all (·.oneCell')) = true := by unfold attrsS; cases thereS ns n <;> rfl
theorem attrs_put (ns : List Node) (n : Int) (cs : Array Value) (h : cs.size = 14) : putCells cs 0 (attrsS ns n).toList = attrsS ns n := by
  apply Array.ext_getElem?
  intro j
  rw [putCells_get]
  simp only [Array.length_toList, attrs_size, Nat.zero_le, true_and, h, Nat.zero_add, and_self, Nat.sub_zero]
  by_cases hj : j < 14
  · rw [if_pos hj]; simp
  · rw [if_neg hj, Array.getElem?_eq_none (by omega), Array.getElem?_eq_none (by rw [attrs_size]; omega)]

end Go.Proofs.Ytfhhggcdmgjbcaa.Sx
