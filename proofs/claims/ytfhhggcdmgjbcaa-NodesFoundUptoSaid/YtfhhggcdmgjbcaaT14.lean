/-
  A part of the walk of the seat: laws of a small proof system, and contracts of functions, each proved. Conditions: as each theorem says.
-/
import Derived.Test.YtfhhggcdmgjbcaaProg
import Derived.Test.YtfhhggcdmgjbcaaT13
namespace Go.Proofs.Ytfhhggcdmgjbcaa.Sx
open Go Go.RowKit Go.Proofs

def findS (ns : List Node) (h : List Int) : Int × Int :=
  if (getH h).2.2 ≠ 0 then (0, 10001) else
  cond (!thereS ns (getH h).1 || !decide ((nd ns (getH h).1.toNat).gen = (getH h).2.1)) (0, 70) ((getH h).1, 0)

set_option maxHeartbeats 8000000 in
theorem Find_calls {q : Option Addr} {h : List Int} {hc : Nat} {p : Option Addr} {ns : List Node} {cap : Nat} {gen : Int} {w : World} (hT : NodesAt (Low w) w p ns) (hW : NodesWf ns) (hB : BytesAt (Low w) w q h) (hhl : h.length ≤ 4294967296) (hhc : h.length ≤ hc) :
    Calls Try.prog 19 #[.agg #[.slice p ns.length cap, .int .u32 gen], .slice q h.length hc] w (Ret w (.tuple #[.int .i64 (findS ns h).1, .int .u32 (findS ns h).2])) := by
  refine calls_ofQ (args := [_, _]) [base w (Low w)] Try.func19 (by kernel_rfl) (by kernel_rfl) (Heap.start w) ?_
  intro Q hQ
  refine ev_seq (by kernel_rfl) ?_
  refine ev_region (n := 3) (by kernel_rfl) ?_
  refine rg_box (d := 2) (t := 25) (x := .tmp 0) (g := none) (by kernel_rfl) (by kernel_rfl) rfl ?_
  intro b1
  refine Rg.pure (d := 4) (op := .assign (.const (.int .i64 0))) (g := none) (v := .int .i64 0) (by kernel_rfl) (by kernel_rfl) (pv_assign rfl) ?_
  refine Rg.pure (d := 5) (op := .assign (.const (.int .u32 0))) (g := none) (v := .int .u32 0) (by kernel_rfl) (by kernel_rfl) (pv_assign rfl) ?_
  refine Rg.fin rfl ?_
  refine at_codeS [0, 1] [(1, _), (2, _), (4, _), (5, _)] [blk b1 (.cells #[.slice p ns.length cap, .int .u32 gen] 25 (0, 0)), base w (Low w)] (.cons rfl (.cons rfl (.cons rfl (.cons rfl (.nil _))))) rfl (by decide) (fun _ _ h => h) ?_
  refine ev_seq (by kernel_rfl) ?_
  refine ev_region (n := 8) (by kernel_rfl) ?_
  refine Rg.pure (d := 9) (op := .move (.tmp 1)) (g := none) (v := .slice q h.length hc) (by kernel_rfl) (by kernel_rfl) (pv_move rfl) ?_
  refine rg_call (d := some 10) (f := 62) (xs := #[.tmp 9]) (ts := #[29]) (g := none) (v := .tuple #[.agg #[.int .i64 ((getH h).1), .int .u32 ((getH h).2.1)], .int .i64 ((getH h).2.2)]) (by kernel_rfl) (by kernel_rfl) (by kernel_rfl) rfl (fun w hw => hGet_calls (((hB).keep (hw.at_ 1 rfl) (fun k hk => hw.lt 1 rfl hk))) hhl hhc) ?_
  refine Rg.pure (d := 8) (op := .move (.tmp 10)) (g := none) (v := .tuple #[.agg #[.int .i64 ((getH h).1), .int .u32 ((getH h).2.1)], .int .i64 ((getH h).2.2)]) (by kernel_rfl) (by kernel_rfl) (pv_move rfl) ?_
  refine Rg.pure (d := 11) (op := .extract (.tmp 8) 0) (g := none) (v := .agg #[.int .i64 ((getH h).1), .int .u32 ((getH h).2.1)]) (by kernel_rfl) (by kernel_rfl) (pv_extract rfl rfl) ?_
  refine Rg.pure (d := 12) (op := .extract (.tmp 8) 1) (g := none) (v := .int .i64 ((getH h).2.2)) (by kernel_rfl) (by kernel_rfl) (pv_extract rfl rfl) ?_
  refine rg_alloc (d := 6) (t := 132) (g := none) (v := .agg #[.int .i64 0, .int .u32 0]) (by kernel_rfl) (by kernel_rfl) (by kernel_rfl) ?_
  intro b2
  refine rg_store (t := 132) (x := .tmp 6) (y := .tmp 11) (g := none) (cs' := #[.int .i64 ((getH h).1), .int .u32 ((getH h).2.1)]) 0 (by kernel_rfl) (by kernel_rfl) rfl rfl rfl (by kernel_rfl) (Nat.le_of_ble_eq_true (by kernel_rfl)) (by kernel_rfl) (by kernel_rfl) ?_
  refine Rg.pure (d := 7) (op := .assign (.tmp 12)) (g := none) (v := .int .i64 ((getH h).2.2)) (by kernel_rfl) (by kernel_rfl) (pv_assign rfl) ?_
  refine Rg.fin rfl ?_
  refine at_codeS [0, 1, 2] [(2, _), (4, _), (5, _), (6, _), (7, _)] [blk b2 (.cells #[.int .i64 ((getH h).1), .int .u32 ((getH h).2.1)] 132 (0, 0)), blk b1 (.cells #[.slice p ns.length cap, .int .u32 gen] 25 (0, 0)), base w (Low w)] (.cons rfl (.cons rfl (.cons rfl (.cons rfl (.cons rfl (.nil _)))))) rfl (by decide) (fun _ _ h => h) ?_
  refine ev_seq (by kernel_rfl) ?_
  refine ev_block (id := 0) (by kernel_rfl) ?_
  refine ev_seq (by kernel_rfl) ?_
  refine ev_region (n := 3) (by kernel_rfl) ?_
  refine Rg.pure (d := 14) (op := .move (.tmp 7)) (g := none) (v := .int .i64 ((getH h).2.2)) (by kernel_rfl) (by kernel_rfl) (pv_move rfl) ?_
  refine Rg.pure (d := 15) (op := .binOp .neq 30 (.tmp 14) (.const (.int .i64 0)) 30) (g := none) (v := .bool (!(decide (((getH h).2.2) = 0)))) (by kernel_rfl) (by kernel_rfl) (pv_neq rfl rfl) ?_
  refine Rg.pure (d := 13) (op := .assign (.tmp 15)) (g := none) (v := .bool (!(decide (((getH h).2.2) = 0)))) (by kernel_rfl) (by kernel_rfl) (pv_assign rfl) ?_
  refine Rg.fin rfl ?_
  refine at_codeS [0, 1, 2] [(2, _), (4, _), (5, _), (6, _), (13, _)] [blk b2 (.cells #[.int .i64 ((getH h).1), .int .u32 ((getH h).2.1)] 132 (0, 0)), blk b1 (.cells #[.slice p ns.length cap, .int .u32 gen] 25 (0, 0)), base w (Low w)] (.cons rfl (.cons rfl (.cons rfl (.cons rfl (.cons rfl (.nil _)))))) rfl (by decide) (fun _ _ h => h) ?_
  refine ev_cond (t := 13) (by kernel_rfl) rfl (fun h1 => ?_) (fun h1 => ?_)
  ·
    have h2 := not_t h1
    have h3 := of_decide_eq_false h2
    refine ev_seq (by kernel_rfl) ?_
    refine ev_region (n := 2) (by kernel_rfl) ?_
    refine Rg.pure (d := 4) (op := .assign (.const (.int .i64 0))) (g := none) (v := .int .i64 0) (by kernel_rfl) (by kernel_rfl) (pv_assign rfl) ?_
    refine Rg.pure (d := 5) (op := .assign (.const (.int .u32 10001))) (g := none) (v := .int .u32 10001) (by kernel_rfl) (by kernel_rfl) (pv_assign rfl) ?_
    refine Rg.fin rfl ?_
    refine at_codeS [0, 1, 2] [(4, _), (5, _), (6, _)] [blk b2 (.cells #[.int .i64 ((getH h).1), .int .u32 ((getH h).2.1)] 132 (0, 0)), blk b1 (.cells #[.slice p ns.length cap, .int .u32 gen] 25 (0, 0)), base w (Low w)] (.cons rfl (.cons rfl (.cons rfl (.nil _)))) rfl (by decide) (fun _ _ h => h) ?_
    refine ev_ret (by kernel_rfl) ?_
    refine At.via (Q := Q) hQ ?_
    refine At.ret2 rfl rfl rfl rfl ?_
    exact fun w hw => ⟨(by unfold findS; rw [if_pos (by simpa using h1)]), hw.base_below 2 rfl⟩
  ·
    have h4 := not_f h1
    have h5 := of_decide_eq_true h4
    refine ev_seq (by kernel_rfl) ?_
    refine ev_quiet (n := 18) (E' := [(4, .int .i64 0), (5, .int .u32 0), (6, .pointer (some ⟨b2, 0, none⟩)), (16, .bool ((!(thereS ns ((getH h).1))) || (!(decide (((nd ns (((getH h).1).toNat)).gen) = ((getH h).2.1))))))]) (by kernel_rfl) (by kernel_rfl) ?_ ?_
    ·
      refine Qg.pure (d := 17) (op := .load 25 (.tmp 2)) (g := none) (v := .agg #[.slice p ns.length cap, .int .u32 gen]) (by kernel_rfl) (by kernel_rfl) (pv_load_blk_whole 1 rfl rfl (by kernel_rfl) (by kernel_rfl)) ?_
      refine Qg.pure (d := 18) (op := .fieldAddr 132 (.tmp 6) 0) (g := none) (v := .pointer (some ⟨b2, 0 + 0, none⟩)) (by kernel_rfl) (by kernel_rfl) (pv_fieldAddr rfl (n := 0) (by kernel_rfl)) ?_
      refine Qg.pure (d := 19) (op := .load 3 (.tmp 18)) (g := none) (v := .int .i64 ((getH h).1)) (by kernel_rfl) (by kernel_rfl) (pv_load_blk 0 rfl rfl (by kernel_rfl) rfl) ?_
      refine qg_call (d := some 20) (f := 54) (xs := #[.tmp 17, .tmp 19]) (ts := #[25, 3]) (g := none) (v := .bool (thereS ns ((getH h).1))) (by kernel_rfl) (by kernel_rfl) (by kernel_rfl) rfl (fun w hw => there_calls ((hT).keep (hw.at_ 2 rfl) (fun k hk => hw.lt 2 rfl hk))) ?_
      refine Qg.pure (d := 21) (op := .unOp .not 4 (.tmp 20)) (g := none) (v := .bool (!(thereS ns ((getH h).1)))) (by kernel_rfl) (by kernel_rfl) (pv_not (b := thereS ns ((getH h).1)) rfl) ?_
      refine Qg.pure (d := 22) (op := .move (.tmp 21)) (g := none) (v := .bool (!(thereS ns ((getH h).1)))) (by kernel_rfl) (by kernel_rfl) (pv_move rfl) ?_
      refine Qg.split 17 [(33, .bool ((!(thereS ns ((getH h).1))) || (!(decide (((nd ns (((getH h).1).toNat)).gen) = ((getH h).2.1)))))), (4, .int .i64 0), (5, .int .u32 0), (6, .pointer (some ⟨b2, 0, none⟩))] [blk b2 (.cells #[.int .i64 ((getH h).1), .int .u32 ((getH h).2.1)] 132 (0, 0)), blk b1 (.cells #[.slice p ns.length cap, .int .u32 gen] 25 (0, 0)), base w (Low w)] (s := 22) (g := !(thereS ns ((getH h).1))) rfl (by decide) (fun h6 => ?_) (fun h6 => ?_) ?_
      ·
        refine Qg.skips 16 (by kernel_rfl) ?_
        refine Qg.pure (d := 33) (op := .pick (.tmp 22) (.const (.bool true)) (.tmp 32)) (g := none) (v := .bool true) (by kernel_rfl) (by kernel_rfl) (pv_pick_t rfl rfl) ?_
        exact Qg.mid (.cons (or_of_t h6 rfl) (.cons (rfl) (.cons (rfl) (.cons (rfl) (.nil _))))) rfl
      ·
        have h7 := not_f h6
        have ⟨h8, h9, h10⟩ := thereS_t h7
        refine Qg.pure (d := 23) (op := .fieldAddr 25 (.tmp 2) 0) (g := some (5, false)) (v := .pointer (some ⟨b1, 0 + 0, none⟩)) (by kernel_rfl) (by kernel_rfl) (pv_fieldAddr rfl (n := 0) (by kernel_rfl)) ?_
        refine Qg.pure (d := 24) (op := .load 22 (.tmp 23)) (g := some (5, false)) (v := .slice p ns.length cap) (by kernel_rfl) (by kernel_rfl) (pv_load_blk 1 rfl rfl (by kernel_rfl) rfl) ?_
        refine Qg.pure (d := 25) (op := .fieldAddr 132 (.tmp 6) 0) (g := some (5, false)) (v := .pointer (some ⟨b2, 0 + 0, none⟩)) (by kernel_rfl) (by kernel_rfl) (pv_fieldAddr rfl (n := 0) (by kernel_rfl)) ?_
        refine Qg.pure (d := 26) (op := .load 3 (.tmp 25)) (g := some (5, false)) (v := .int .i64 ((getH h).1)) (by kernel_rfl) (by kernel_rfl) (pv_load_blk 0 rfl rfl (by kernel_rfl) rfl) ?_
        have ⟨q3, o4, hp5⟩ := hT.rows.adr (by omega)
        refine Qg.pure (d := 27) (op := .indexAddr 22 (.tmp 24) (.tmp 26)) (g := some (5, false)) (v := .pointer (some ⟨q3, o4 + ((getH h).1).toNat * 25, none⟩)) (by kernel_rfl) (by kernel_rfl) (pv_indexAddr' rfl hp5 rfl (e := 44) (sz := 25) (by kernel_rfl) (by omega) (by omega)) ?_
        refine Qg.pure (d := 28) (op := .fieldAddr 44 (.tmp 27) 1) (g := some (5, false)) (v := .pointer (some ⟨q3, o4 + ((getH h).1).toNat * 25 + 1, none⟩)) (by kernel_rfl) (by kernel_rfl) (pv_fieldAddr rfl (n := 1) (by kernel_rfl)) ?_
        refine Qg.pure (d := 29) (op := .load 23 (.tmp 28)) (g := some (5, false)) (v := .int .u32 ((nd ns (((getH h).1).toNat)).gen)) (by kernel_rfl) (by kernel_rfl) (pv_load rfl (by kernel_rfl) (fun w hw => ((hT).keep (hw.at_ 2 rfl) (fun _ h => h)).rows.cell _ _ hp5 _ (by omega) 1 (by decide))) ?_
        refine Qg.pure (d := 30) (op := .fieldAddr 132 (.tmp 6) 1) (g := some (5, false)) (v := .pointer (some ⟨b2, 0 + 1, none⟩)) (by kernel_rfl) (by kernel_rfl) (pv_fieldAddr rfl (n := 1) (by kernel_rfl)) ?_
        refine Qg.pure (d := 31) (op := .load 23 (.tmp 30)) (g := some (5, false)) (v := .int .u32 ((getH h).2.1)) (by kernel_rfl) (by kernel_rfl) (pv_load_blk 0 rfl rfl (by kernel_rfl) rfl) ?_
        refine Qg.pure (d := 32) (op := .binOp .neq 23 (.tmp 29) (.tmp 31) 23) (g := some (5, false)) (v := .bool (!(decide (((nd ns (((getH h).1).toNat)).gen) = ((getH h).2.1))))) (by kernel_rfl) (by kernel_rfl) (pv_neq rfl rfl) ?_
        refine Qg.pure (d := 33) (op := .pick (.tmp 22) (.const (.bool true)) (.tmp 32)) (g := none) (v := .bool (!(decide (((nd ns (((getH h).1).toNat)).gen) = ((getH h).2.1))))) (by kernel_rfl) (by kernel_rfl) (pv_pick_f rfl rfl) ?_
        exact Qg.mid (.cons (or_of_f h6 rfl) (.cons (rfl) (.cons (rfl) (.cons (rfl) (.nil _))))) rfl
      refine Qg.pure (d := 16) (op := .assign (.tmp 33)) (g := none) (v := .bool ((!(thereS ns ((getH h).1))) || (!(decide (((nd ns (((getH h).1).toNat)).gen) = ((getH h).2.1)))))) (by kernel_rfl) (by kernel_rfl) (pv_assign rfl) ?_
      exact Qg.mid (.cons rfl (.cons rfl (.cons rfl (.cons rfl (.nil _))))) rfl
    refine at_codeS [0, 1, 2] [(4, _), (5, _), (6, _), (16, _)] [blk b2 (.cells #[.int .i64 ((getH h).1), .int .u32 ((getH h).2.1)] 132 (0, 0)), blk b1 (.cells #[.slice p ns.length cap, .int .u32 gen] 25 (0, 0)), base w (Low w)] (.cons rfl (.cons rfl (.cons rfl (.cons rfl (.nil _))))) rfl (by decide) (fun _ _ h => h) ?_
    refine ev_cond (t := 16) (by kernel_rfl) rfl (fun h11 => ?_) (fun h11 => ?_)
    ·
      refine ev_seq (by kernel_rfl) ?_
      refine ev_region (n := 2) (by kernel_rfl) ?_
      refine Rg.pure (d := 4) (op := .assign (.const (.int .i64 0))) (g := none) (v := .int .i64 0) (by kernel_rfl) (by kernel_rfl) (pv_assign rfl) ?_
      refine Rg.pure (d := 5) (op := .assign (.const (.int .u32 70))) (g := none) (v := .int .u32 70) (by kernel_rfl) (by kernel_rfl) (pv_assign rfl) ?_
      refine Rg.fin rfl ?_
      refine at_codeS [0, 1, 2] [(4, _), (5, _), (6, _)] [blk b2 (.cells #[.int .i64 ((getH h).1), .int .u32 ((getH h).2.1)] 132 (0, 0)), blk b1 (.cells #[.slice p ns.length cap, .int .u32 gen] 25 (0, 0)), base w (Low w)] (.cons rfl (.cons rfl (.cons rfl (.nil _)))) rfl (by decide) (fun _ _ h => h) ?_
      refine ev_ret (by kernel_rfl) ?_
      refine At.via (Q := Q) hQ ?_
      refine At.ret2 rfl rfl rfl rfl ?_
      exact fun w hw => ⟨(by unfold findS; rw [if_neg (by simpa using h1), h11]; rfl), hw.base_below 2 rfl⟩
    ·
      have ⟨h12, h13⟩ := or_f h11
      have h14 := not_f h12
      have ⟨h15, h16, h17⟩ := thereS_t h14
      have h18 := not_f h13
      have h19 := of_decide_eq_true h18
      refine ev_skip (by kernel_rfl) ?_
      refine at_codeS [0, 1, 2] [(4, _), (5, _), (6, _)] [blk b2 (.cells #[.int .i64 ((getH h).1), .int .u32 ((getH h).2.1)] 132 (0, 0)), blk b1 (.cells #[.slice p ns.length cap, .int .u32 gen] 25 (0, 0)), base w (Low w)] (.cons rfl (.cons rfl (.cons rfl (.nil _)))) rfl (by decide) (fun _ _ h => h) ?_
      refine ev_seq (by kernel_rfl) ?_
      refine ev_region (n := 4) (by kernel_rfl) ?_
      refine Rg.pure (d := 34) (op := .fieldAddr 132 (.tmp 6) 0) (g := none) (v := .pointer (some ⟨b2, 0 + 0, none⟩)) (by kernel_rfl) (by kernel_rfl) (pv_fieldAddr rfl (n := 0) (by kernel_rfl)) ?_
      refine Rg.pure (d := 35) (op := .load 3 (.tmp 34)) (g := none) (v := .int .i64 ((getH h).1)) (by kernel_rfl) (by kernel_rfl) (pv_load_blk 0 rfl rfl (by kernel_rfl) rfl) ?_
      refine Rg.pure (d := 4) (op := .assign (.tmp 35)) (g := none) (v := .int .i64 ((getH h).1)) (by kernel_rfl) (by kernel_rfl) (pv_assign rfl) ?_
      refine Rg.pure (d := 5) (op := .assign (.const (.int .u32 0))) (g := none) (v := .int .u32 0) (by kernel_rfl) (by kernel_rfl) (pv_assign rfl) ?_
      refine Rg.fin rfl ?_
      refine at_codeS [0, 1, 2] [(4, _), (5, _)] [blk b2 (.cells #[.int .i64 ((getH h).1), .int .u32 ((getH h).2.1)] 132 (0, 0)), blk b1 (.cells #[.slice p ns.length cap, .int .u32 gen] 25 (0, 0)), base w (Low w)] (.cons rfl (.cons rfl (.nil _))) rfl (by decide) (fun _ _ h => h) ?_
      refine ev_ret (by kernel_rfl) ?_
      refine At.via (Q := Q) hQ ?_
      refine At.ret2 rfl rfl rfl rfl ?_
      exact fun w hw => ⟨(by unfold findS; rw [if_neg (by simpa using h1), h11]; rfl), hw.base_below 2 rfl⟩

def hdlE (ns : List Node) (n : Int) : Int := cond (!thereS ns n || decide (1024 < n)) 1 0
def hdlB (ns : List Node) (n : Int) : List Int := cond (!thereS ns n || decide (1024 < n)) [] (hB n (nd ns n.toNat).gen)

set_option maxHeartbeats 8000000 in
theorem Handle_calls {n : Int} {p : Option Addr} {ns : List Node} {cap : Nat} {gen : Int} {w : World} (hT : NodesAt (Low w) w p ns) (hW : NodesWf ns) :
    Calls Try.prog 17 #[.agg #[.slice p ns.length cap, .int .u32 gen], .int .i64 n] w (RetN w (fun x : Option Addr × Nat => (hdlB ns n).length ≤ x.2) (fun x => .tuple #[.slice x.1 (hdlB ns n).length x.2, .int .i64 (hdlE ns n)]) (fun x => [own 5 1 x.1 (hdlB ns n).length x.2 (bv (hdlB ns n))])) := by
  refine calls_ofQ (args := [_, _]) [base w (Low w)] Try.func17 (by kernel_rfl) (by kernel_rfl) (Heap.start w) ?_
  intro Q hQ
  refine ev_seq (by kernel_rfl) ?_
  refine ev_region (n := 3) (by kernel_rfl) ?_
  refine rg_box (d := 2) (t := 25) (x := .tmp 0) (g := none) (by kernel_rfl) (by kernel_rfl) rfl ?_
  intro b1
  refine Rg.pure (d := 4) (op := .assign (.const (.slice none 0 0))) (g := none) (v := .slice none 0 0) (by kernel_rfl) (by kernel_rfl) (pv_assign rfl) ?_
  refine Rg.pure (d := 5) (op := .assign (.const (.int .i64 0))) (g := none) (v := .int .i64 0) (by kernel_rfl) (by kernel_rfl) (pv_assign rfl) ?_
  refine Rg.fin rfl ?_
  refine at_codeS [0, 1] [(1, _), (2, _), (4, _), (5, _)] [blk b1 (.cells #[.slice p ns.length cap, .int .u32 gen] 25 (0, 0)), base w (Low w)] (.cons rfl (.cons rfl (.cons rfl (.cons rfl (.nil _))))) rfl (by decide) (fun _ _ h => h) ?_
  refine ev_seq (by kernel_rfl) ?_
  refine ev_seq (by kernel_rfl) ?_
  refine ev_region (n := 8) (by kernel_rfl) ?_
  refine Rg.pure (d := 6) (op := .load 25 (.tmp 2)) (g := none) (v := .agg #[.slice p ns.length cap, .int .u32 gen]) (by kernel_rfl) (by kernel_rfl) (pv_load_blk_whole 0 rfl rfl (by kernel_rfl) (by kernel_rfl)) ?_
  refine Rg.pure (d := 7) (op := .move (.tmp 1)) (g := none) (v := .int .i64 n) (by kernel_rfl) (by kernel_rfl) (pv_move rfl) ?_
  refine rg_call (d := some 8) (f := 54) (xs := #[.tmp 6, .tmp 7]) (ts := #[25, 3]) (g := none) (v := .bool (thereS ns n)) (by kernel_rfl) (by kernel_rfl) (by kernel_rfl) rfl (fun w hw => there_calls ((hT).keep (hw.at_ 1 rfl) (fun k hk => hw.lt 1 rfl hk))) ?_
  refine Rg.pure (d := 9) (op := .unOp .not 4 (.tmp 8)) (g := none) (v := .bool (!(thereS ns n))) (by kernel_rfl) (by kernel_rfl) (pv_not (b := thereS ns n) rfl) ?_
  refine Rg.pure (d := 10) (op := .move (.tmp 9)) (g := none) (v := .bool (!(thereS ns n))) (by kernel_rfl) (by kernel_rfl) (pv_move rfl) ?_
  refine Rg.split 8 [(13, .bool ((!(thereS ns n)) || (decide (1024 < n)))), (1, .int .i64 n), (2, .pointer (some ⟨b1, 0, none⟩)), (4, .slice none 0 0), (5, .int .i64 0)] [blk b1 (.cells #[.slice p ns.length cap, .int .u32 gen] 25 (0, 0)), base w (Low w)] (s := 10) (g := !(thereS ns n)) rfl (by decide) (fun h1 => ?_) (fun h1 => ?_) ?_
  ·
    refine Rg.skips 7 (by kernel_rfl) ?_
    refine Rg.pure (d := 13) (op := .pick (.tmp 10) (.const (.bool true)) (.tmp 12)) (g := none) (v := .bool true) (by kernel_rfl) (by kernel_rfl) (pv_pick_t rfl rfl) ?_
    refine Rg.fin rfl (At.mid [0, 1] (.cons (or_of_t h1 rfl) (.cons (rfl) (.cons (rfl) (.cons (rfl) (.cons (rfl) (.nil _)))))) rfl (by decide))
  ·
    have h2 := not_f h1
    have ⟨h3, h4, h5⟩ := thereS_t h2
    refine Rg.pure (d := 11) (op := .move (.tmp 1)) (g := some (4, false)) (v := .int .i64 n) (by kernel_rfl) (by kernel_rfl) (pv_move rfl) ?_
    refine Rg.pure (d := 12) (op := .binOp .gtr 3 (.tmp 11) (.const (.int .i64 1024)) 3) (g := some (4, false)) (v := .bool (decide (1024 < n))) (by kernel_rfl) (by kernel_rfl) (pv_gtr rfl rfl) ?_
    refine Rg.pure (d := 13) (op := .pick (.tmp 10) (.const (.bool true)) (.tmp 12)) (g := none) (v := .bool (decide (1024 < n))) (by kernel_rfl) (by kernel_rfl) (pv_pick_f rfl rfl) ?_
    refine Rg.fin rfl (At.mid [0, 1] (.cons (or_of_f h1 rfl) (.cons (rfl) (.cons (rfl) (.cons (rfl) (.cons (rfl) (.nil _)))))) rfl (by decide))
  refine Rg.fin rfl ?_
  refine at_codeS [0, 1] [(1, _), (2, _), (4, _), (5, _), (13, _)] [blk b1 (.cells #[.slice p ns.length cap, .int .u32 gen] 25 (0, 0)), base w (Low w)] (.cons rfl (.cons rfl (.cons rfl (.cons rfl (.cons rfl (.nil _)))))) rfl (by decide) (fun _ _ h => h) ?_
  refine ev_cond (t := 13) (by kernel_rfl) rfl (fun h6 => ?_) (fun h6 => ?_)
  ·
    refine ev_seq (by kernel_rfl) ?_
    refine ev_region (n := 2) (by kernel_rfl) ?_
    refine Rg.pure (d := 4) (op := .assign (.const (.slice none 0 0))) (g := none) (v := .slice none 0 0) (by kernel_rfl) (by kernel_rfl) (pv_assign rfl) ?_
    refine Rg.pure (d := 5) (op := .assign (.const (.int .i64 1))) (g := none) (v := .int .i64 1) (by kernel_rfl) (by kernel_rfl) (pv_assign rfl) ?_
    refine Rg.fin rfl ?_
    refine at_codeS [0, 1] [(1, _), (2, _), (4, _), (5, _)] [blk b1 (.cells #[.slice p ns.length cap, .int .u32 gen] 25 (0, 0)), base w (Low w)] (.cons rfl (.cons rfl (.cons rfl (.cons rfl (.nil _))))) rfl (by decide) (fun _ _ h => h) ?_
    refine ev_ret (by kernel_rfl) ?_
    refine At.via (Q := Q) hQ ?_
    refine At.ret2 rfl rfl rfl rfl ?_
    have e1_ := h6
    exact fun w hw => ⟨(none, 0), (by unfold hdlB; rw [e1_]; exact Nat.le_refl _), (by unfold hdlB hdlE; rw [e1_]; rfl), (by unfold hdlB; rw [e1_]; exact (hw.ownNil 5 1).pick [0, 2] (by decide))⟩
  ·
    have ⟨h7, h8⟩ := or_f h6
    have h9 := not_f h7
    have ⟨h10, h11, h12⟩ := thereS_t h9
    have h13 := of_decide_eq_false h8
    refine ev_skip (by kernel_rfl) ?_
    refine at_codeS [0, 1] [(1, _), (2, _), (4, _), (5, _)] [blk b1 (.cells #[.slice p ns.length cap, .int .u32 gen] 25 (0, 0)), base w (Low w)] (.cons rfl (.cons rfl (.cons rfl (.cons rfl (.nil _))))) rfl (by decide) (fun _ _ h => h) ?_
    refine ev_seq (by kernel_rfl) ?_
    refine ev_region (n := 13) (by kernel_rfl) ?_
    refine Rg.pure (d := 14) (op := .move (.tmp 1)) (g := none) (v := .int .i64 n) (by kernel_rfl) (by kernel_rfl) (pv_move rfl) ?_
    refine Rg.pure (d := 15) (op := .fieldAddr 25 (.tmp 2) 0) (g := none) (v := .pointer (some ⟨b1, 0 + 0, none⟩)) (by kernel_rfl) (by kernel_rfl) (pv_fieldAddr rfl (n := 0) (by kernel_rfl)) ?_
    refine Rg.pure (d := 16) (op := .load 22 (.tmp 15)) (g := none) (v := .slice p ns.length cap) (by kernel_rfl) (by kernel_rfl) (pv_load_blk 0 rfl rfl (by kernel_rfl) rfl) ?_
    refine Rg.pure (d := 17) (op := .move (.tmp 1)) (g := none) (v := .int .i64 n) (by kernel_rfl) (by kernel_rfl) (pv_move rfl) ?_
    have ⟨q2, o3, hp4⟩ := hT.rows.adr (by omega)
    refine Rg.pure (d := 18) (op := .indexAddr 22 (.tmp 16) (.tmp 17)) (g := none) (v := .pointer (some ⟨q2, o3 + (n).toNat * 25, none⟩)) (by kernel_rfl) (by kernel_rfl) (pv_indexAddr' rfl hp4 rfl (e := 44) (sz := 25) (by kernel_rfl) (by omega) (by omega)) ?_
    refine Rg.pure (d := 19) (op := .fieldAddr 44 (.tmp 18) 1) (g := none) (v := .pointer (some ⟨q2, o3 + (n).toNat * 25 + 1, none⟩)) (by kernel_rfl) (by kernel_rfl) (pv_fieldAddr rfl (n := 1) (by kernel_rfl)) ?_
    refine Rg.pure (d := 20) (op := .load 23 (.tmp 19)) (g := none) (v := .int .u32 ((nd ns ((n).toNat)).gen)) (by kernel_rfl) (by kernel_rfl) (pv_load rfl (by kernel_rfl) (fun w hw => ((hT).keep (hw.at_ 1 rfl) (fun _ h => h)).rows.cell _ _ hp4 _ (by omega) 1 (by decide))) ?_
    refine Rg.pure (d := 21) (op := .build 132 #[(0, .tmp 14), (1, .tmp 20)]) (g := none) (v := .agg #[.int .i64 n, .int .u32 ((nd ns ((n).toNat)).gen)]) (by kernel_rfl) (by kernel_rfl) (pv_build (parts := [(0, .tmp 14), (1, .tmp 20)]) (vs := [.int .i64 n, .int .u32 ((nd ns ((n).toNat)).gen)]) (fs := [(0, 1), (1, 1)]) (zv := .agg #[.int .i64 0, .int .u32 0]) (cs := #[.int .i64 n, .int .u32 ((nd ns ((n).toNat)).gen)]) rfl (by kernel_rfl) (by kernel_rfl) (by kernel_rfl)) ?_
    refine rg_callN (T := Option Addr × Nat) (d := some 22) (f := 61) (fo := .func 61) (caps := #[]) (xs := #[.tmp 21]) (ts := #[132]) (g := none) (v := fun ⟨p5, c6⟩ => .tuple #[.slice p5 16 c6, .int .i64 0]) (L := fun ⟨p5, c6⟩ => [own 5 1 p5 16 c6 (bv (hB n ((nd ns ((n).toNat)).gen)))]) (by kernel_rfl) (by kernel_rfl) rfl (by kernel_rfl) rfl (fun w hw => hPut_calls (by omega) (by omega)) ?_
    rintro ⟨p5, c6⟩ hc_c6
    dsimp only [putE, List.append, HAppend.hAppend, Append.append]
    have hk_c6 : 16 ≤ c6 := hc_c6
    refine Rg.pure (d := 23) (op := .extract (.tmp 22) 0) (g := none) (v := .slice p5 16 c6) (by kernel_rfl) (by kernel_rfl) (pv_extract rfl rfl) ?_
    refine Rg.pure (d := 24) (op := .extract (.tmp 22) 1) (g := none) (v := .int .i64 0) (by kernel_rfl) (by kernel_rfl) (pv_extract rfl rfl) ?_
    refine Rg.pure (d := 4) (op := .assign (.tmp 23)) (g := none) (v := .slice p5 16 c6) (by kernel_rfl) (by kernel_rfl) (pv_assign rfl) ?_
    refine Rg.pure (d := 5) (op := .assign (.tmp 24)) (g := none) (v := .int .i64 0) (by kernel_rfl) (by kernel_rfl) (pv_assign rfl) ?_
    refine Rg.fin rfl ?_
    refine at_codeS [0, 1, 2] [(4, _), (5, _)] [own 5 1 p5 16 c6 (bv (hB n ((nd ns ((n).toNat)).gen))), blk b1 (.cells #[.slice p ns.length cap, .int .u32 gen] 25 (0, 0)), base w (Low w)] (.cons rfl (.cons rfl (.nil _))) rfl (by decide) (fun _ _ h => h) ?_
    refine ev_ret (by kernel_rfl) ?_
    refine At.via (Q := Q) hQ ?_
    refine At.ret2 rfl rfl rfl rfl ?_
    have e1_ := h6
    exact fun w hw => ⟨(p5, c6), (by unfold hdlB; rw [e1_]; exact hk_c6), (by unfold hdlB hdlE; rw [e1_]; rfl), (by unfold hdlB; rw [e1_]; exact hw.pick [0, 2] (by decide))⟩

def sizeL (n : Node) : List (Int × Int) := upd (upd [] 1 (n.data.length : Int)) 5 (n.target.size : Int)
def sizeS (n : Node) : Int := cond (!(look (sizeL n) n.kind).isSome) (32 * (n.list.length : Int)) ((look (sizeL n) n.kind).getD 0)
def attrsC (n : Node) (i : Int) : Array Value := #[.int .u32 n.kind, .int .u32 n.mode, .int .u32 (IntKind.u32.wrap n.links), .int .u32 n.user, .int .u32 n.group, .int .u64 (IntKind.u64.wrap (sizeS n)), .int .u64 (IntKind.u64.wrap (sizeS n)), .int .u64 (IntKind.u64.wrap i),
  .int .u32 n.rs, .int .u32 n.rn, .int .u32 n.ws, .int .u32 n.wn, .int .u32 n.ts, .int .u32 n.tn]
def attrs0 : Array Value := #[.int .u32 0, .int .u32 0, .int .u32 0, .int .u32 0, .int .u32 0, .int .u64 0, .int .u64 0, .int .u64 0, .int .u32 0, .int .u32 0, .int .u32 0, .int .u32 0, .int .u32 0, .int .u32 0]
def attrsS (ns : List Node) (n : Int) : Array Value := cond (!thereS ns n) attrs0 (attrsC (nd ns n.toNat) n)

set_option maxHeartbeats 8000000 in
theorem Attrs_calls {n : Int} {p : Option Addr} {ns : List Node} {cap : Nat} {gen : Int} {w : World} (hT : NodesAt (Low w) w p ns) (hW : NodesWf ns) :
    Calls Try.prog 18 #[.agg #[.slice p ns.length cap, .int .u32 gen], .int .i64 n] w (Ret w (.tuple #[.agg (attrsS ns n), .bool (thereS ns n)])) := by
  refine calls_ofQ (args := [_, _]) [base w (Low w)] Try.func18 (by kernel_rfl) (by kernel_rfl) (Heap.start w) ?_
  intro Q hQ
  have hlen := hW.len
  have htg := (hW.node n.toNat).target
  have hlg := (hW.node n.toNat).list
  refine ev_seq (by kernel_rfl) ?_
  refine ev_region (n := 3) (by kernel_rfl) ?_
  refine rg_box (d := 2) (t := 25) (x := .tmp 0) (g := none) (by kernel_rfl) (by kernel_rfl) rfl ?_
  intro b1
  refine rg_alloc (d := 4) (t := 38) (g := none) (v := .agg #[.int .u32 0, .int .u32 0, .int .u32 0, .int .u32 0, .int .u32 0, .int .u64 0, .int .u64 0, .int .u64 0, .int .u32 0, .int .u32 0, .int .u32 0, .int .u32 0, .int .u32 0, .int .u32 0]) (by kernel_rfl) (by kernel_rfl) (by kernel_rfl) ?_
  intro b2
  refine Rg.pure (d := 5) (op := .assign (.const (.bool false))) (g := none) (v := .bool false) (by kernel_rfl) (by kernel_rfl) (pv_assign rfl) ?_
  refine Rg.fin rfl ?_
  refine at_codeS [0, 1, 2] [(1, _), (2, _), (4, _), (5, _)] [blk b2 (.cells #[.int .u32 0, .int .u32 0, .int .u32 0, .int .u32 0, .int .u32 0, .int .u64 0, .int .u64 0, .int .u64 0, .int .u32 0, .int .u32 0, .int .u32 0, .int .u32 0, .int .u32 0, .int .u32 0] 38 (0, 0)), blk b1 (.cells #[.slice p ns.length cap, .int .u32 gen] 25 (0, 0)), base w (Low w)] (.cons rfl (.cons rfl (.cons rfl (.cons rfl (.nil _))))) rfl (by decide) (fun _ _ h => h) ?_
  refine ev_seq (by kernel_rfl) ?_
  refine ev_seq (by kernel_rfl) ?_
  refine ev_region (n := 4) (by kernel_rfl) ?_
  refine Rg.pure (d := 10) (op := .load 25 (.tmp 2)) (g := none) (v := .agg #[.slice p ns.length cap, .int .u32 gen]) (by kernel_rfl) (by kernel_rfl) (pv_load_blk_whole 1 rfl rfl (by kernel_rfl) (by kernel_rfl)) ?_
  refine Rg.pure (d := 11) (op := .move (.tmp 1)) (g := none) (v := .int .i64 n) (by kernel_rfl) (by kernel_rfl) (pv_move rfl) ?_
  refine rg_call (d := some 12) (f := 54) (xs := #[.tmp 10, .tmp 11]) (ts := #[25, 3]) (g := none) (v := .bool (thereS ns n)) (by kernel_rfl) (by kernel_rfl) (by kernel_rfl) rfl (fun w hw => there_calls ((hT).keep (hw.at_ 2 rfl) (fun k hk => hw.lt 2 rfl hk))) ?_
  refine Rg.pure (d := 13) (op := .unOp .not 4 (.tmp 12)) (g := none) (v := .bool (!(thereS ns n))) (by kernel_rfl) (by kernel_rfl) (pv_not (b := thereS ns n) rfl) ?_
  refine Rg.fin rfl ?_
  refine at_codeS [0, 1, 2] [(1, _), (2, _), (4, _), (5, _), (13, _)] [blk b2 (.cells #[.int .u32 0, .int .u32 0, .int .u32 0, .int .u32 0, .int .u32 0, .int .u64 0, .int .u64 0, .int .u64 0, .int .u32 0, .int .u32 0, .int .u32 0, .int .u32 0, .int .u32 0, .int .u32 0] 38 (0, 0)), blk b1 (.cells #[.slice p ns.length cap, .int .u32 gen] 25 (0, 0)), base w (Low w)] (.cons rfl (.cons rfl (.cons rfl (.cons rfl (.cons rfl (.nil _)))))) rfl (by decide) (fun _ _ h => h) ?_
  refine ev_cond (t := 13) (by kernel_rfl) rfl (fun h1 => ?_) (fun h1 => ?_)
  ·
    have h2 := not_t h1
    refine ev_seq (by kernel_rfl) ?_
    refine ev_region (n := 3) (by kernel_rfl) ?_
    refine Rg.pure (d := 14) (op := .build 38 #[]) (g := none) (v := .agg #[.int .u32 0, .int .u32 0, .int .u32 0, .int .u32 0, .int .u32 0, .int .u64 0, .int .u64 0, .int .u64 0, .int .u32 0, .int .u32 0, .int .u32 0, .int .u32 0, .int .u32 0, .int .u32 0]) (by kernel_rfl) (by kernel_rfl) (pv_build (parts := []) (vs := []) (fs := [(0, 1), (1, 1), (2, 1), (3, 1), (4, 1), (5, 1), (6, 1), (7, 1), (8, 2), (10, 2), (12, 2)]) (zv := .agg #[.int .u32 0, .int .u32 0, .int .u32 0, .int .u32 0, .int .u32 0, .int .u64 0, .int .u64 0, .int .u64 0, .int .u32 0, .int .u32 0, .int .u32 0, .int .u32 0, .int .u32 0, .int .u32 0]) (cs := #[.int .u32 0, .int .u32 0, .int .u32 0, .int .u32 0, .int .u32 0, .int .u64 0, .int .u64 0, .int .u64 0, .int .u32 0, .int .u32 0, .int .u32 0, .int .u32 0, .int .u32 0, .int .u32 0]) rfl (by kernel_rfl) (by kernel_rfl) (by kernel_rfl)) ?_
    refine rg_store (t := 38) (x := .tmp 4) (y := .tmp 14) (g := none) (cs' := #[.int .u32 0, .int .u32 0, .int .u32 0, .int .u32 0, .int .u32 0, .int .u64 0, .int .u64 0, .int .u64 0, .int .u32 0, .int .u32 0, .int .u32 0, .int .u32 0, .int .u32 0, .int .u32 0]) 0 (by kernel_rfl) (by kernel_rfl) rfl rfl rfl (by kernel_rfl) (Nat.le_of_ble_eq_true (by kernel_rfl)) (by kernel_rfl) (by kernel_rfl) ?_
    refine Rg.pure (d := 5) (op := .assign (.const (.bool false))) (g := none) (v := .bool false) (by kernel_rfl) (by kernel_rfl) (pv_assign rfl) ?_
    refine Rg.fin rfl ?_
    refine at_codeS [0, 1, 2] [(1, _), (2, _), (4, _), (5, _)] [blk b2 (.cells #[.int .u32 0, .int .u32 0, .int .u32 0, .int .u32 0, .int .u32 0, .int .u64 0, .int .u64 0, .int .u64 0, .int .u32 0, .int .u32 0, .int .u32 0, .int .u32 0, .int .u32 0, .int .u32 0] 38 (0, 0)), blk b1 (.cells #[.slice p ns.length cap, .int .u32 gen] 25 (0, 0)), base w (Low w)] (.cons rfl (.cons rfl (.cons rfl (.cons rfl (.nil _))))) rfl (by decide) (fun _ _ h => h) ?_
    refine ev_ret (by kernel_rfl) ?_
    refine At.via (Q := Q) hQ ?_
    refine At.retCell2 rfl rfl (reads_cellA 0 rfl rfl (by kernel_rfl) (by kernel_rfl)) (reads_tmp rfl) ?_
    exact fun w hw => ⟨(by unfold attrsS; rw [(show thereS ns n = false by simpa using h1)]; rfl), hw.base_below 2 rfl⟩
  ·
    have h3 := not_f h1
    have ⟨h4, h5, h6⟩ := thereS_t h3
    refine ev_skip (by kernel_rfl) ?_
    refine at_codeS [0, 1, 2] [(1, _), (2, _), (4, _), (5, _)] [blk b2 (.cells #[.int .u32 0, .int .u32 0, .int .u32 0, .int .u32 0, .int .u32 0, .int .u64 0, .int .u64 0, .int .u64 0, .int .u32 0, .int .u32 0, .int .u32 0, .int .u32 0, .int .u32 0, .int .u32 0] 38 (0, 0)), blk b1 (.cells #[.slice p ns.length cap, .int .u32 gen] 25 (0, 0)), base w (Low w)] (.cons rfl (.cons rfl (.cons rfl (.cons rfl (.nil _))))) rfl (by decide) (fun _ _ h => h) ?_
    refine ev_seq (by kernel_rfl) ?_
    refine ev_region (n := 7) (by kernel_rfl) ?_
    refine Rg.pure (d := 15) (op := .fieldAddr 25 (.tmp 2) 0) (g := none) (v := .pointer (some ⟨b1, 0 + 0, none⟩)) (by kernel_rfl) (by kernel_rfl) (pv_fieldAddr rfl (n := 0) (by kernel_rfl)) ?_
    refine Rg.pure (d := 16) (op := .load 22 (.tmp 15)) (g := none) (v := .slice p ns.length cap) (by kernel_rfl) (by kernel_rfl) (pv_load_blk 1 rfl rfl (by kernel_rfl) rfl) ?_
    refine Rg.pure (d := 17) (op := .move (.tmp 1)) (g := none) (v := .int .i64 n) (by kernel_rfl) (by kernel_rfl) (pv_move rfl) ?_
    have ⟨q3, o4, hp5⟩ := hT.rows.adr (by omega)
    refine Rg.pure (d := 18) (op := .indexAddr 22 (.tmp 16) (.tmp 17)) (g := none) (v := .pointer (some ⟨q3, o4 + (n).toNat * 25, none⟩)) (by kernel_rfl) (by kernel_rfl) (pv_indexAddr' rfl hp5 rfl (e := 44) (sz := 25) (by kernel_rfl) (by omega) (by omega)) ?_
    refine Rg.pure (d := 19) (op := .load 44 (.tmp 18)) (g := none) (v := .agg ((nd ns ((n).toNat)).cells)) (by kernel_rfl) (by kernel_rfl) (pv_load_node (i := (n).toNat) (ns := ns) rfl hp5 (by omega) (by kernel_rfl) (by kernel_rfl) (fun w hw => ((hT).keep (hw.at_ 2 rfl) (fun k hk => hw.lt 2 rfl hk)))) ?_
    refine rg_alloc (d := 6) (t := 44) (g := none) (v := .agg #[.int .u32 0, .int .u32 0, .int .u32 0, .int .u32 0, .int .u32 0, .int .i64 0, .int .u32 0, .int .u32 0, .int .u32 0, .int .u32 0, .int .u32 0, .int .u32 0, .slice none 0 0, .int .u8 0, .int .u8 0, .int .u8 0, .int .u8 0, .int .u8 0, .int .u8 0, .int .u8 0, .int .u8 0, .string ⟨#[]⟩, .slice none 0 0, .int .i64 0, .int .u64 0]) (by kernel_rfl) (by kernel_rfl) (by kernel_rfl) ?_
    intro b6
    refine rg_store (t := 44) (x := .tmp 6) (y := .tmp 19) (g := none) (cs' := (nd ns ((n).toNat)).cells) 0 (by kernel_rfl) (by kernel_rfl) rfl rfl rfl (by kernel_rfl) (Nat.le_of_ble_eq_true (by kernel_rfl)) (by kernel_rfl) (by kernel_rfl) ?_
    refine Rg.fin rfl ?_
    refine at_codeS [0, 1, 2, 3] [(1, _), (4, _), (5, _), (6, _)] [blk b6 (.cells ((nd ns ((n).toNat)).cells) 44 (0, 0)), blk b2 (.cells #[.int .u32 0, .int .u32 0, .int .u32 0, .int .u32 0, .int .u32 0, .int .u64 0, .int .u64 0, .int .u64 0, .int .u32 0, .int .u32 0, .int .u32 0, .int .u32 0, .int .u32 0, .int .u32 0] 38 (0, 0)), blk b1 (.cells #[.slice p ns.length cap, .int .u32 gen] 25 (0, 0)), base w (Low w)] (.cons rfl (.cons rfl (.cons rfl (.cons rfl (.nil _))))) rfl (by decide) (fun _ _ h => h) ?_
    refine ev_seq (by kernel_rfl) ?_
    refine ev_region (n := 11) (by kernel_rfl) ?_
    refine rg_makeMap (d := 20) (t := 133) (g := none) (intKey .u32) (by kernel_rfl) (by kernel_rfl) ?_
    intro r7
    refine Rg.pure (d := 21) (op := .fieldAddr 44 (.tmp 6) 9) (g := none) (v := .pointer (some ⟨b6, 0 + 12, none⟩)) (by kernel_rfl) (by kernel_rfl) (pv_fieldAddr rfl (n := 12) (by kernel_rfl)) ?_
    refine Rg.pure (d := 22) (op := .load 29 (.tmp 21)) (g := none) (v := .slice ((nd ns ((n).toNat)).dA) ((nd ns ((n).toNat)).data.length) ((nd ns ((n).toNat)).dCap)) (by kernel_rfl) (by kernel_rfl) (pv_load_blk 1 rfl rfl (by kernel_rfl) rfl) ?_
    refine Rg.pure (d := 23) (op := .call { callee := .builtin .len, args := #[.tmp 22], argTypes := #[29] }) (g := none) (v := .int .i64 ((nd ns ((n).toNat)).data.length : Int)) (by kernel_rfl) (by kernel_rfl) (pv_len_slice rfl (by kernel_rfl)) ?_
    refine rg_insert (t := 133) (x := .tmp 20) (y := .const (.int .u32 1)) (z := .tmp 23) (kt := 33) (et := 3) (g := none) (intKey .u32) 0 (by kernel_rfl) (by kernel_rfl) rfl rfl rfl (by kernel_rfl) (by kernel_rfl) rfl ?_
    refine Rg.pure (d := 24) (op := .fieldAddr 44 (.tmp 6) 11) (g := none) (v := .pointer (some ⟨b6, 0 + 21, none⟩)) (by kernel_rfl) (by kernel_rfl) (pv_fieldAddr rfl (n := 21) (by kernel_rfl)) ?_
    refine Rg.pure (d := 25) (op := .load 9 (.tmp 24)) (g := none) (v := .string ((nd ns ((n).toNat)).target)) (by kernel_rfl) (by kernel_rfl) (pv_load_blk 1 rfl rfl (by kernel_rfl) rfl) ?_
    refine Rg.pure (d := 26) (op := .call { callee := .builtin .len, args := #[.tmp 25], argTypes := #[9] }) (g := none) (v := .int .i64 (((nd ns ((n).toNat)).target).size : Int)) (by kernel_rfl) (by kernel_rfl) (pv_len_string rfl (by kernel_rfl)) ?_
    refine rg_insert (t := 133) (x := .tmp 20) (y := .const (.int .u32 5)) (z := .tmp 26) (kt := 33) (et := 3) (g := none) (intKey .u32) 0 (by kernel_rfl) (by kernel_rfl) rfl rfl rfl (by kernel_rfl) (by kernel_rfl) rfl ?_
    refine Rg.pure (d := 27) (op := .move (.tmp 20)) (g := none) (v := .map (some r7)) (by kernel_rfl) (by kernel_rfl) (pv_move rfl) ?_
    refine Rg.pure (d := 7) (op := .assign (.tmp 27)) (g := none) (v := .map (some r7)) (by kernel_rfl) (by kernel_rfl) (pv_assign rfl) ?_
    refine Rg.fin rfl ?_
    refine at_codeS [0, 1, 2, 3, 4] [(1, _), (4, _), (5, _), (6, _), (7, _)] [mapItem (intKey .u32) r7 (upd (upd [] 1 ((nd ns ((n).toNat)).data.length : Int)) 5 (((nd ns ((n).toNat)).target).size : Int) : List (Int × Int)), blk b6 (.cells ((nd ns ((n).toNat)).cells) 44 (0, 0)), blk b2 (.cells #[.int .u32 0, .int .u32 0, .int .u32 0, .int .u32 0, .int .u32 0, .int .u64 0, .int .u64 0, .int .u64 0, .int .u32 0, .int .u32 0, .int .u32 0, .int .u32 0, .int .u32 0, .int .u32 0] 38 (0, 0)), blk b1 (.cells #[.slice p ns.length cap, .int .u32 gen] 25 (0, 0)), base w (Low w)] (.cons rfl (.cons rfl (.cons rfl (.cons rfl (.cons rfl (.nil _)))))) rfl (by decide) (fun _ _ h => h) ?_
    refine ev_seq (by kernel_rfl) ?_
    refine ev_region (n := 9) (by kernel_rfl) ?_
    refine Rg.pure (d := 29) (op := .move (.tmp 7)) (g := none) (v := .map (some r7)) (by kernel_rfl) (by kernel_rfl) (pv_move rfl) ?_
    refine Rg.pure (d := 30) (op := .fieldAddr 44 (.tmp 6) 0) (g := none) (v := .pointer (some ⟨b6, 0 + 0, none⟩)) (by kernel_rfl) (by kernel_rfl) (pv_fieldAddr rfl (n := 0) (by kernel_rfl)) ?_
    refine Rg.pure (d := 31) (op := .load 33 (.tmp 30)) (g := none) (v := .int .u32 ((nd ns ((n).toNat)).kind)) (by kernel_rfl) (by kernel_rfl) (pv_load_blk 1 rfl rfl (by kernel_rfl) rfl) ?_
    refine Rg.pure (d := 32) (op := .lookup 133 (.tmp 29) (.tmp 31) true) (g := none) (v := .tuple #[.int .i64 ((look (upd (upd [] 1 ((nd ns ((n).toNat)).data.length : Int)) 5 (((nd ns ((n).toNat)).target).size : Int) : List (Int × Int)) ((nd ns ((n).toNat)).kind)).getD 0), .bool ((look (upd (upd [] 1 ((nd ns ((n).toNat)).data.length : Int)) 5 (((nd ns ((n).toNat)).target).size : Int) : List (Int × Int)) ((nd ns ((n).toNat)).kind)).isSome)]) (by kernel_rfl) (by kernel_rfl) (pv_lookup_ok (kt := 33) (et := 3) (intKey .u32) 0 rfl rfl (by kernel_rfl) (by kernel_rfl) (by kernel_rfl) rfl) ?_
    refine Rg.pure (d := 28) (op := .move (.tmp 32)) (g := none) (v := .tuple #[.int .i64 ((look (upd (upd [] 1 ((nd ns ((n).toNat)).data.length : Int)) 5 (((nd ns ((n).toNat)).target).size : Int) : List (Int × Int)) ((nd ns ((n).toNat)).kind)).getD 0), .bool ((look (upd (upd [] 1 ((nd ns ((n).toNat)).data.length : Int)) 5 (((nd ns ((n).toNat)).target).size : Int) : List (Int × Int)) ((nd ns ((n).toNat)).kind)).isSome)]) (by kernel_rfl) (by kernel_rfl) (pv_move rfl) ?_
    refine Rg.pure (d := 33) (op := .extract (.tmp 28) 0) (g := none) (v := .int .i64 ((look (upd (upd [] 1 ((nd ns ((n).toNat)).data.length : Int)) 5 (((nd ns ((n).toNat)).target).size : Int) : List (Int × Int)) ((nd ns ((n).toNat)).kind)).getD 0)) (by kernel_rfl) (by kernel_rfl) (pv_extract rfl rfl) ?_
    refine Rg.pure (d := 34) (op := .extract (.tmp 28) 1) (g := none) (v := .bool ((look (upd (upd [] 1 ((nd ns ((n).toNat)).data.length : Int)) 5 (((nd ns ((n).toNat)).target).size : Int) : List (Int × Int)) ((nd ns ((n).toNat)).kind)).isSome)) (by kernel_rfl) (by kernel_rfl) (pv_extract rfl rfl) ?_
    refine Rg.pure (d := 8) (op := .assign (.tmp 33)) (g := none) (v := .int .i64 ((look (upd (upd [] 1 ((nd ns ((n).toNat)).data.length : Int)) 5 (((nd ns ((n).toNat)).target).size : Int) : List (Int × Int)) ((nd ns ((n).toNat)).kind)).getD 0)) (by kernel_rfl) (by kernel_rfl) (pv_assign rfl) ?_
    refine Rg.pure (d := 9) (op := .assign (.tmp 34)) (g := none) (v := .bool ((look (upd (upd [] 1 ((nd ns ((n).toNat)).data.length : Int)) 5 (((nd ns ((n).toNat)).target).size : Int) : List (Int × Int)) ((nd ns ((n).toNat)).kind)).isSome)) (by kernel_rfl) (by kernel_rfl) (pv_assign rfl) ?_
    refine Rg.fin rfl ?_
    refine at_codeS [0, 1, 2, 3, 4] [(1, _), (4, _), (5, _), (6, _), (8, _), (9, _)] [mapItem (intKey .u32) r7 (upd (upd [] 1 ((nd ns ((n).toNat)).data.length : Int)) 5 (((nd ns ((n).toNat)).target).size : Int) : List (Int × Int)), blk b6 (.cells ((nd ns ((n).toNat)).cells) 44 (0, 0)), blk b2 (.cells #[.int .u32 0, .int .u32 0, .int .u32 0, .int .u32 0, .int .u32 0, .int .u64 0, .int .u64 0, .int .u64 0, .int .u32 0, .int .u32 0, .int .u32 0, .int .u32 0, .int .u32 0, .int .u32 0] 38 (0, 0)), blk b1 (.cells #[.slice p ns.length cap, .int .u32 gen] 25 (0, 0)), base w (Low w)] (.cons rfl (.cons rfl (.cons rfl (.cons rfl (.cons rfl (.cons rfl (.nil _))))))) rfl (by decide) (fun _ _ h => h) ?_
    refine ev_seq (by kernel_rfl) ?_
    refine ev_seq (by kernel_rfl) ?_
    refine ev_region (n := 2) (by kernel_rfl) ?_
    refine Rg.pure (d := 35) (op := .move (.tmp 9)) (g := none) (v := .bool ((look (upd (upd [] 1 ((nd ns ((n).toNat)).data.length : Int)) 5 (((nd ns ((n).toNat)).target).size : Int) : List (Int × Int)) ((nd ns ((n).toNat)).kind)).isSome)) (by kernel_rfl) (by kernel_rfl) (pv_move rfl) ?_
    refine Rg.pure (d := 36) (op := .unOp .not 4 (.tmp 35)) (g := none) (v := .bool (!((look (upd (upd [] 1 ((nd ns ((n).toNat)).data.length : Int)) 5 (((nd ns ((n).toNat)).target).size : Int) : List (Int × Int)) ((nd ns ((n).toNat)).kind)).isSome))) (by kernel_rfl) (by kernel_rfl) (pv_not (b := (look (upd (upd [] 1 ((nd ns ((n).toNat)).data.length : Int)) 5 (((nd ns ((n).toNat)).target).size : Int) : List (Int × Int)) ((nd ns ((n).toNat)).kind)).isSome) rfl) ?_
    refine Rg.fin rfl ?_
    refine at_codeS [0, 1, 2, 3, 4] [(1, _), (4, _), (5, _), (6, _), (8, _), (36, _)] [mapItem (intKey .u32) r7 (upd (upd [] 1 ((nd ns ((n).toNat)).data.length : Int)) 5 (((nd ns ((n).toNat)).target).size : Int) : List (Int × Int)), blk b6 (.cells ((nd ns ((n).toNat)).cells) 44 (0, 0)), blk b2 (.cells #[.int .u32 0, .int .u32 0, .int .u32 0, .int .u32 0, .int .u32 0, .int .u64 0, .int .u64 0, .int .u64 0, .int .u32 0, .int .u32 0, .int .u32 0, .int .u32 0, .int .u32 0, .int .u32 0] 38 (0, 0)), blk b1 (.cells #[.slice p ns.length cap, .int .u32 gen] 25 (0, 0)), base w (Low w)] (.cons rfl (.cons rfl (.cons rfl (.cons rfl (.cons rfl (.cons rfl (.nil _))))))) rfl (by decide) (fun _ _ h => h) ?_
    refine ev_cond (t := 36) (by kernel_rfl) rfl (fun h7 => ?_) (fun h7 => ?_)
    ·
      have h8 := not_t h7
      refine ev_region (n := 5) (by kernel_rfl) ?_
      refine Rg.pure (d := 37) (op := .fieldAddr 44 (.tmp 6) 12) (g := none) (v := .pointer (some ⟨b6, 0 + 22, none⟩)) (by kernel_rfl) (by kernel_rfl) (pv_fieldAddr rfl (n := 22) (by kernel_rfl)) ?_
      refine Rg.pure (d := 38) (op := .load 42 (.tmp 37)) (g := none) (v := .slice ((nd ns ((n).toNat)).lA) ((nd ns ((n).toNat)).list.length) ((nd ns ((n).toNat)).lCap)) (by kernel_rfl) (by kernel_rfl) (pv_load_blk 1 rfl rfl (by kernel_rfl) rfl) ?_
      refine Rg.pure (d := 39) (op := .call { callee := .builtin .len, args := #[.tmp 38], argTypes := #[42] }) (g := none) (v := .int .i64 ((nd ns ((n).toNat)).list.length : Int)) (by kernel_rfl) (by kernel_rfl) (pv_len_slice rfl (by kernel_rfl)) ?_
      refine Rg.pure (d := 40) (op := .binOp .mul 3 (.const (.int .i64 32)) (.tmp 39) 3) (g := none) (v := .int .i64 (32 * ((nd ns ((n).toNat)).list.length : Int))) (by kernel_rfl) (by kernel_rfl) (pv_mulb rfl rfl (in_i64 (by omega) (by omega))) ?_
      refine Rg.pure (d := 8) (op := .assign (.tmp 40)) (g := none) (v := .int .i64 (32 * ((nd ns ((n).toNat)).list.length : Int))) (by kernel_rfl) (by kernel_rfl) (pv_assign rfl) ?_
      refine Rg.fin rfl ?_
      refine at_codeS [0, 1, 2, 3, 4] [(1, _), (4, _), (5, _), (6, _), (8, _)] [mapItem (intKey .u32) r7 (upd (upd [] 1 ((nd ns ((n).toNat)).data.length : Int)) 5 (((nd ns ((n).toNat)).target).size : Int) : List (Int × Int)), blk b6 (.cells ((nd ns ((n).toNat)).cells) 44 (0, 0)), blk b2 (.cells #[.int .u32 0, .int .u32 0, .int .u32 0, .int .u32 0, .int .u32 0, .int .u64 0, .int .u64 0, .int .u64 0, .int .u32 0, .int .u32 0, .int .u32 0, .int .u32 0, .int .u32 0, .int .u32 0] 38 (0, 0)), blk b1 (.cells #[.slice p ns.length cap, .int .u32 gen] 25 (0, 0)), base w (Low w)] (.cons rfl (.cons rfl (.cons rfl (.cons rfl (.cons rfl (.nil _)))))) rfl (by decide) (fun _ _ h => h) ?_
      refine ev_seq (by kernel_rfl) ?_
      refine ev_region (n := 26) (by kernel_rfl) ?_
      refine Rg.pure (d := 41) (op := .fieldAddr 44 (.tmp 6) 0) (g := none) (v := .pointer (some ⟨b6, 0 + 0, none⟩)) (by kernel_rfl) (by kernel_rfl) (pv_fieldAddr rfl (n := 0) (by kernel_rfl)) ?_
      refine Rg.pure (d := 42) (op := .load 33 (.tmp 41)) (g := none) (v := .int .u32 ((nd ns ((n).toNat)).kind)) (by kernel_rfl) (by kernel_rfl) (pv_load_blk 1 rfl rfl (by kernel_rfl) rfl) ?_
      refine Rg.pure (d := 43) (op := .fieldAddr 44 (.tmp 6) 2) (g := none) (v := .pointer (some ⟨b6, 0 + 2, none⟩)) (by kernel_rfl) (by kernel_rfl) (pv_fieldAddr rfl (n := 2) (by kernel_rfl)) ?_
      refine Rg.pure (d := 44) (op := .load 23 (.tmp 43)) (g := none) (v := .int .u32 ((nd ns ((n).toNat)).mode)) (by kernel_rfl) (by kernel_rfl) (pv_load_blk 1 rfl rfl (by kernel_rfl) rfl) ?_
      refine Rg.pure (d := 45) (op := .fieldAddr 44 (.tmp 6) 5) (g := none) (v := .pointer (some ⟨b6, 0 + 5, none⟩)) (by kernel_rfl) (by kernel_rfl) (pv_fieldAddr rfl (n := 5) (by kernel_rfl)) ?_
      refine Rg.pure (d := 46) (op := .load 3 (.tmp 45)) (g := none) (v := .int .i64 ((nd ns ((n).toNat)).links)) (by kernel_rfl) (by kernel_rfl) (pv_load_blk 1 rfl rfl (by kernel_rfl) rfl) ?_
      refine Rg.pure (d := 47) (op := .convert 3 23 (.tmp 46)) (g := none) (v := .int .u32 (IntKind.u32.wrap ((nd ns ((n).toNat)).links))) (by kernel_rfl) (by kernel_rfl) (pv_convert (q' := .u32) rfl (by kernel_rfl) (by kernel_rfl)) ?_
      refine Rg.pure (d := 48) (op := .fieldAddr 44 (.tmp 6) 3) (g := none) (v := .pointer (some ⟨b6, 0 + 3, none⟩)) (by kernel_rfl) (by kernel_rfl) (pv_fieldAddr rfl (n := 3) (by kernel_rfl)) ?_
      refine Rg.pure (d := 49) (op := .load 23 (.tmp 48)) (g := none) (v := .int .u32 ((nd ns ((n).toNat)).user)) (by kernel_rfl) (by kernel_rfl) (pv_load_blk 1 rfl rfl (by kernel_rfl) rfl) ?_
      refine Rg.pure (d := 50) (op := .fieldAddr 44 (.tmp 6) 4) (g := none) (v := .pointer (some ⟨b6, 0 + 4, none⟩)) (by kernel_rfl) (by kernel_rfl) (pv_fieldAddr rfl (n := 4) (by kernel_rfl)) ?_
      refine Rg.pure (d := 51) (op := .load 23 (.tmp 50)) (g := none) (v := .int .u32 ((nd ns ((n).toNat)).group)) (by kernel_rfl) (by kernel_rfl) (pv_load_blk 1 rfl rfl (by kernel_rfl) rfl) ?_
      refine Rg.pure (d := 52) (op := .move (.tmp 8)) (g := none) (v := .int .i64 (32 * ((nd ns ((n).toNat)).list.length : Int))) (by kernel_rfl) (by kernel_rfl) (pv_move rfl) ?_
      refine Rg.pure (d := 53) (op := .convert 3 34 (.tmp 52)) (g := none) (v := .int .u64 (IntKind.u64.wrap (32 * ((nd ns ((n).toNat)).list.length : Int)))) (by kernel_rfl) (by kernel_rfl) (pv_convert (q' := .u64) rfl (by kernel_rfl) (by kernel_rfl)) ?_
      refine Rg.pure (d := 54) (op := .move (.tmp 8)) (g := none) (v := .int .i64 (32 * ((nd ns ((n).toNat)).list.length : Int))) (by kernel_rfl) (by kernel_rfl) (pv_move rfl) ?_
      refine Rg.pure (d := 55) (op := .convert 3 34 (.tmp 54)) (g := none) (v := .int .u64 (IntKind.u64.wrap (32 * ((nd ns ((n).toNat)).list.length : Int)))) (by kernel_rfl) (by kernel_rfl) (pv_convert (q' := .u64) rfl (by kernel_rfl) (by kernel_rfl)) ?_
      refine Rg.pure (d := 56) (op := .move (.tmp 1)) (g := none) (v := .int .i64 n) (by kernel_rfl) (by kernel_rfl) (pv_move rfl) ?_
      refine Rg.pure (d := 57) (op := .convert 3 34 (.tmp 56)) (g := none) (v := .int .u64 (IntKind.u64.wrap n)) (by kernel_rfl) (by kernel_rfl) (pv_convert (q' := .u64) rfl (by kernel_rfl) (by kernel_rfl)) ?_
      refine Rg.pure (d := 58) (op := .fieldAddr 44 (.tmp 6) 6) (g := none) (v := .pointer (some ⟨b6, 0 + 6, none⟩)) (by kernel_rfl) (by kernel_rfl) (pv_fieldAddr rfl (n := 6) (by kernel_rfl)) ?_
      refine Rg.pure (d := 59) (op := .load 36 (.tmp 58)) (g := none) (v := .agg #[.int .u32 ((nd ns ((n).toNat)).rs), .int .u32 ((nd ns ((n).toNat)).rn)]) (by kernel_rfl) (by kernel_rfl) (pv_load_blk_agg 1 rfl rfl (vs := #[.int .u32 ((nd ns ((n).toNat)).rs), .int .u32 ((nd ns ((n).toNat)).rn)]) (by kernel_rfl) (by kernel_rfl) (agg_rfl (by kernel_rfl))) ?_
      refine Rg.pure (d := 60) (op := .fieldAddr 44 (.tmp 6) 7) (g := none) (v := .pointer (some ⟨b6, 0 + 8, none⟩)) (by kernel_rfl) (by kernel_rfl) (pv_fieldAddr rfl (n := 8) (by kernel_rfl)) ?_
      refine Rg.pure (d := 61) (op := .load 36 (.tmp 60)) (g := none) (v := .agg #[.int .u32 ((nd ns ((n).toNat)).ws), .int .u32 ((nd ns ((n).toNat)).wn)]) (by kernel_rfl) (by kernel_rfl) (pv_load_blk_agg 1 rfl rfl (vs := #[.int .u32 ((nd ns ((n).toNat)).ws), .int .u32 ((nd ns ((n).toNat)).wn)]) (by kernel_rfl) (by kernel_rfl) (agg_rfl (by kernel_rfl))) ?_
      refine Rg.pure (d := 62) (op := .fieldAddr 44 (.tmp 6) 8) (g := none) (v := .pointer (some ⟨b6, 0 + 10, none⟩)) (by kernel_rfl) (by kernel_rfl) (pv_fieldAddr rfl (n := 10) (by kernel_rfl)) ?_
      refine Rg.pure (d := 63) (op := .load 36 (.tmp 62)) (g := none) (v := .agg #[.int .u32 ((nd ns ((n).toNat)).ts), .int .u32 ((nd ns ((n).toNat)).tn)]) (by kernel_rfl) (by kernel_rfl) (pv_load_blk_agg 1 rfl rfl (vs := #[.int .u32 ((nd ns ((n).toNat)).ts), .int .u32 ((nd ns ((n).toNat)).tn)]) (by kernel_rfl) (by kernel_rfl) (agg_rfl (by kernel_rfl))) ?_
      refine Rg.pure (d := 64) (op := .build 38 #[(0, .tmp 42), (1, .tmp 44), (2, .tmp 47), (3, .tmp 49), (4, .tmp 51), (5, .tmp 53), (6, .tmp 55), (7, .tmp 57), (8, .tmp 59), (9, .tmp 61), (10, .tmp 63)]) (g := none) (v := .agg #[.int .u32 ((nd ns ((n).toNat)).kind), .int .u32 ((nd ns ((n).toNat)).mode), .int .u32 (IntKind.u32.wrap ((nd ns ((n).toNat)).links)), .int .u32 ((nd ns ((n).toNat)).user), .int .u32 ((nd ns ((n).toNat)).group), .int .u64 (IntKind.u64.wrap (32 * ((nd ns ((n).toNat)).list.length : Int))), .int .u64 (IntKind.u64.wrap (32 * ((nd ns ((n).toNat)).list.length : Int))), .int .u64 (IntKind.u64.wrap n), .int .u32 ((nd ns ((n).toNat)).rs), .int .u32 ((nd ns ((n).toNat)).rn), .int .u32 ((nd ns ((n).toNat)).ws), .int .u32 ((nd ns ((n).toNat)).wn), .int .u32 ((nd ns ((n).toNat)).ts), .int .u32 ((nd ns ((n).toNat)).tn)]) (by kernel_rfl) (by kernel_rfl) (pv_build (parts := [(0, .tmp 42), (1, .tmp 44), (2, .tmp 47), (3, .tmp 49), (4, .tmp 51), (5, .tmp 53), (6, .tmp 55), (7, .tmp 57), (8, .tmp 59), (9, .tmp 61), (10, .tmp 63)]) (vs := [.int .u32 ((nd ns ((n).toNat)).kind), .int .u32 ((nd ns ((n).toNat)).mode), .int .u32 (IntKind.u32.wrap ((nd ns ((n).toNat)).links)), .int .u32 ((nd ns ((n).toNat)).user), .int .u32 ((nd ns ((n).toNat)).group), .int .u64 (IntKind.u64.wrap (32 * ((nd ns ((n).toNat)).list.length : Int))), .int .u64 (IntKind.u64.wrap (32 * ((nd ns ((n).toNat)).list.length : Int))), .int .u64 (IntKind.u64.wrap n), .agg #[.int .u32 ((nd ns ((n).toNat)).rs), .int .u32 ((nd ns ((n).toNat)).rn)], .agg #[.int .u32 ((nd ns ((n).toNat)).ws), .int .u32 ((nd ns ((n).toNat)).wn)], .agg #[.int .u32 ((nd ns ((n).toNat)).ts), .int .u32 ((nd ns ((n).toNat)).tn)]]) (fs := [(0, 1), (1, 1), (2, 1), (3, 1), (4, 1), (5, 1), (6, 1), (7, 1), (8, 2), (10, 2), (12, 2)]) (zv := .agg #[.int .u32 0, .int .u32 0, .int .u32 0, .int .u32 0, .int .u32 0, .int .u64 0, .int .u64 0, .int .u64 0, .int .u32 0, .int .u32 0, .int .u32 0, .int .u32 0, .int .u32 0, .int .u32 0]) (cs := #[.int .u32 ((nd ns ((n).toNat)).kind), .int .u32 ((nd ns ((n).toNat)).mode), .int .u32 (IntKind.u32.wrap ((nd ns ((n).toNat)).links)), .int .u32 ((nd ns ((n).toNat)).user), .int .u32 ((nd ns ((n).toNat)).group), .int .u64 (IntKind.u64.wrap (32 * ((nd ns ((n).toNat)).list.length : Int))), .int .u64 (IntKind.u64.wrap (32 * ((nd ns ((n).toNat)).list.length : Int))), .int .u64 (IntKind.u64.wrap n), .int .u32 ((nd ns ((n).toNat)).rs), .int .u32 ((nd ns ((n).toNat)).rn), .int .u32 ((nd ns ((n).toNat)).ws), .int .u32 ((nd ns ((n).toNat)).wn), .int .u32 ((nd ns ((n).toNat)).ts), .int .u32 ((nd ns ((n).toNat)).tn)]) rfl (by kernel_rfl) (by kernel_rfl) (by kernel_rfl)) ?_
      refine rg_store (t := 38) (x := .tmp 4) (y := .tmp 64) (g := none) (cs' := #[.int .u32 ((nd ns ((n).toNat)).kind), .int .u32 ((nd ns ((n).toNat)).mode), .int .u32 (IntKind.u32.wrap ((nd ns ((n).toNat)).links)), .int .u32 ((nd ns ((n).toNat)).user), .int .u32 ((nd ns ((n).toNat)).group), .int .u64 (IntKind.u64.wrap (32 * ((nd ns ((n).toNat)).list.length : Int))), .int .u64 (IntKind.u64.wrap (32 * ((nd ns ((n).toNat)).list.length : Int))), .int .u64 (IntKind.u64.wrap n), .int .u32 ((nd ns ((n).toNat)).rs), .int .u32 ((nd ns ((n).toNat)).rn), .int .u32 ((nd ns ((n).toNat)).ws), .int .u32 ((nd ns ((n).toNat)).wn), .int .u32 ((nd ns ((n).toNat)).ts), .int .u32 ((nd ns ((n).toNat)).tn)]) 2 (by kernel_rfl) (by kernel_rfl) rfl rfl rfl (by kernel_rfl) (Nat.le_of_ble_eq_true (by kernel_rfl)) (by kernel_rfl) (by kernel_rfl) ?_
      refine Rg.pure (d := 5) (op := .assign (.const (.bool true))) (g := none) (v := .bool true) (by kernel_rfl) (by kernel_rfl) (pv_assign rfl) ?_
      refine Rg.fin rfl ?_
      refine at_codeS [0, 1, 2, 3, 4] [(4, _), (5, _)] [mapItem (intKey .u32) r7 (upd (upd [] 1 ((nd ns ((n).toNat)).data.length : Int)) 5 (((nd ns ((n).toNat)).target).size : Int) : List (Int × Int)), blk b6 (.cells ((nd ns ((n).toNat)).cells) 44 (0, 0)), blk b2 (.cells #[.int .u32 ((nd ns ((n).toNat)).kind), .int .u32 ((nd ns ((n).toNat)).mode), .int .u32 (IntKind.u32.wrap ((nd ns ((n).toNat)).links)), .int .u32 ((nd ns ((n).toNat)).user), .int .u32 ((nd ns ((n).toNat)).group), .int .u64 (IntKind.u64.wrap (32 * ((nd ns ((n).toNat)).list.length : Int))), .int .u64 (IntKind.u64.wrap (32 * ((nd ns ((n).toNat)).list.length : Int))), .int .u64 (IntKind.u64.wrap n), .int .u32 ((nd ns ((n).toNat)).rs), .int .u32 ((nd ns ((n).toNat)).rn), .int .u32 ((nd ns ((n).toNat)).ws), .int .u32 ((nd ns ((n).toNat)).wn), .int .u32 ((nd ns ((n).toNat)).ts), .int .u32 ((nd ns ((n).toNat)).tn)] 38 (0, 0)), blk b1 (.cells #[.slice p ns.length cap, .int .u32 gen] 25 (0, 0)), base w (Low w)] (.cons rfl (.cons rfl (.nil _))) rfl (by decide) (fun _ _ h => h) ?_
      refine ev_ret (by kernel_rfl) ?_
      refine At.via (Q := Q) hQ ?_
      refine At.retCell2 rfl rfl (reads_cellA 2 rfl rfl (by kernel_rfl) (by kernel_rfl)) (reads_tmp rfl) ?_
      exact fun w hw => ⟨(by unfold attrsS attrsC sizeS; rw [(show thereS ns n = true by simpa using h1)]; (have e2_ := h7); unfold sizeL; rw [e2_]; rfl), hw.base_below 4 rfl⟩
    ·
      have h9 := not_f h7
      refine ev_skip (by kernel_rfl) ?_
      refine at_codeS [0, 1, 2, 3, 4] [(1, _), (4, _), (5, _), (6, _), (8, _)] [mapItem (intKey .u32) r7 (upd (upd [] 1 ((nd ns ((n).toNat)).data.length : Int)) 5 (((nd ns ((n).toNat)).target).size : Int) : List (Int × Int)), blk b6 (.cells ((nd ns ((n).toNat)).cells) 44 (0, 0)), blk b2 (.cells #[.int .u32 0, .int .u32 0, .int .u32 0, .int .u32 0, .int .u32 0, .int .u64 0, .int .u64 0, .int .u64 0, .int .u32 0, .int .u32 0, .int .u32 0, .int .u32 0, .int .u32 0, .int .u32 0] 38 (0, 0)), blk b1 (.cells #[.slice p ns.length cap, .int .u32 gen] 25 (0, 0)), base w (Low w)] (.cons rfl (.cons rfl (.cons rfl (.cons rfl (.cons rfl (.nil _)))))) rfl (by decide) (fun _ _ h => h) ?_
      refine ev_seq (by kernel_rfl) ?_
      refine ev_region (n := 26) (by kernel_rfl) ?_
      refine Rg.pure (d := 41) (op := .fieldAddr 44 (.tmp 6) 0) (g := none) (v := .pointer (some ⟨b6, 0 + 0, none⟩)) (by kernel_rfl) (by kernel_rfl) (pv_fieldAddr rfl (n := 0) (by kernel_rfl)) ?_
      refine Rg.pure (d := 42) (op := .load 33 (.tmp 41)) (g := none) (v := .int .u32 ((nd ns ((n).toNat)).kind)) (by kernel_rfl) (by kernel_rfl) (pv_load_blk 1 rfl rfl (by kernel_rfl) rfl) ?_
      refine Rg.pure (d := 43) (op := .fieldAddr 44 (.tmp 6) 2) (g := none) (v := .pointer (some ⟨b6, 0 + 2, none⟩)) (by kernel_rfl) (by kernel_rfl) (pv_fieldAddr rfl (n := 2) (by kernel_rfl)) ?_
      refine Rg.pure (d := 44) (op := .load 23 (.tmp 43)) (g := none) (v := .int .u32 ((nd ns ((n).toNat)).mode)) (by kernel_rfl) (by kernel_rfl) (pv_load_blk 1 rfl rfl (by kernel_rfl) rfl) ?_
      refine Rg.pure (d := 45) (op := .fieldAddr 44 (.tmp 6) 5) (g := none) (v := .pointer (some ⟨b6, 0 + 5, none⟩)) (by kernel_rfl) (by kernel_rfl) (pv_fieldAddr rfl (n := 5) (by kernel_rfl)) ?_
      refine Rg.pure (d := 46) (op := .load 3 (.tmp 45)) (g := none) (v := .int .i64 ((nd ns ((n).toNat)).links)) (by kernel_rfl) (by kernel_rfl) (pv_load_blk 1 rfl rfl (by kernel_rfl) rfl) ?_
      refine Rg.pure (d := 47) (op := .convert 3 23 (.tmp 46)) (g := none) (v := .int .u32 (IntKind.u32.wrap ((nd ns ((n).toNat)).links))) (by kernel_rfl) (by kernel_rfl) (pv_convert (q' := .u32) rfl (by kernel_rfl) (by kernel_rfl)) ?_
      refine Rg.pure (d := 48) (op := .fieldAddr 44 (.tmp 6) 3) (g := none) (v := .pointer (some ⟨b6, 0 + 3, none⟩)) (by kernel_rfl) (by kernel_rfl) (pv_fieldAddr rfl (n := 3) (by kernel_rfl)) ?_
      refine Rg.pure (d := 49) (op := .load 23 (.tmp 48)) (g := none) (v := .int .u32 ((nd ns ((n).toNat)).user)) (by kernel_rfl) (by kernel_rfl) (pv_load_blk 1 rfl rfl (by kernel_rfl) rfl) ?_
      refine Rg.pure (d := 50) (op := .fieldAddr 44 (.tmp 6) 4) (g := none) (v := .pointer (some ⟨b6, 0 + 4, none⟩)) (by kernel_rfl) (by kernel_rfl) (pv_fieldAddr rfl (n := 4) (by kernel_rfl)) ?_
      refine Rg.pure (d := 51) (op := .load 23 (.tmp 50)) (g := none) (v := .int .u32 ((nd ns ((n).toNat)).group)) (by kernel_rfl) (by kernel_rfl) (pv_load_blk 1 rfl rfl (by kernel_rfl) rfl) ?_
      refine Rg.pure (d := 52) (op := .move (.tmp 8)) (g := none) (v := .int .i64 ((look (upd (upd [] 1 ((nd ns ((n).toNat)).data.length : Int)) 5 (((nd ns ((n).toNat)).target).size : Int) : List (Int × Int)) ((nd ns ((n).toNat)).kind)).getD 0)) (by kernel_rfl) (by kernel_rfl) (pv_move rfl) ?_
      refine Rg.pure (d := 53) (op := .convert 3 34 (.tmp 52)) (g := none) (v := .int .u64 (IntKind.u64.wrap ((look (upd (upd [] 1 ((nd ns ((n).toNat)).data.length : Int)) 5 (((nd ns ((n).toNat)).target).size : Int) : List (Int × Int)) ((nd ns ((n).toNat)).kind)).getD 0))) (by kernel_rfl) (by kernel_rfl) (pv_convert (q' := .u64) rfl (by kernel_rfl) (by kernel_rfl)) ?_
      refine Rg.pure (d := 54) (op := .move (.tmp 8)) (g := none) (v := .int .i64 ((look (upd (upd [] 1 ((nd ns ((n).toNat)).data.length : Int)) 5 (((nd ns ((n).toNat)).target).size : Int) : List (Int × Int)) ((nd ns ((n).toNat)).kind)).getD 0)) (by kernel_rfl) (by kernel_rfl) (pv_move rfl) ?_
      refine Rg.pure (d := 55) (op := .convert 3 34 (.tmp 54)) (g := none) (v := .int .u64 (IntKind.u64.wrap ((look (upd (upd [] 1 ((nd ns ((n).toNat)).data.length : Int)) 5 (((nd ns ((n).toNat)).target).size : Int) : List (Int × Int)) ((nd ns ((n).toNat)).kind)).getD 0))) (by kernel_rfl) (by kernel_rfl) (pv_convert (q' := .u64) rfl (by kernel_rfl) (by kernel_rfl)) ?_
      refine Rg.pure (d := 56) (op := .move (.tmp 1)) (g := none) (v := .int .i64 n) (by kernel_rfl) (by kernel_rfl) (pv_move rfl) ?_
      refine Rg.pure (d := 57) (op := .convert 3 34 (.tmp 56)) (g := none) (v := .int .u64 (IntKind.u64.wrap n)) (by kernel_rfl) (by kernel_rfl) (pv_convert (q' := .u64) rfl (by kernel_rfl) (by kernel_rfl)) ?_
      refine Rg.pure (d := 58) (op := .fieldAddr 44 (.tmp 6) 6) (g := none) (v := .pointer (some ⟨b6, 0 + 6, none⟩)) (by kernel_rfl) (by kernel_rfl) (pv_fieldAddr rfl (n := 6) (by kernel_rfl)) ?_
      refine Rg.pure (d := 59) (op := .load 36 (.tmp 58)) (g := none) (v := .agg #[.int .u32 ((nd ns ((n).toNat)).rs), .int .u32 ((nd ns ((n).toNat)).rn)]) (by kernel_rfl) (by kernel_rfl) (pv_load_blk_agg 1 rfl rfl (vs := #[.int .u32 ((nd ns ((n).toNat)).rs), .int .u32 ((nd ns ((n).toNat)).rn)]) (by kernel_rfl) (by kernel_rfl) (agg_rfl (by kernel_rfl))) ?_
      refine Rg.pure (d := 60) (op := .fieldAddr 44 (.tmp 6) 7) (g := none) (v := .pointer (some ⟨b6, 0 + 8, none⟩)) (by kernel_rfl) (by kernel_rfl) (pv_fieldAddr rfl (n := 8) (by kernel_rfl)) ?_
      refine Rg.pure (d := 61) (op := .load 36 (.tmp 60)) (g := none) (v := .agg #[.int .u32 ((nd ns ((n).toNat)).ws), .int .u32 ((nd ns ((n).toNat)).wn)]) (by kernel_rfl) (by kernel_rfl) (pv_load_blk_agg 1 rfl rfl (vs := #[.int .u32 ((nd ns ((n).toNat)).ws), .int .u32 ((nd ns ((n).toNat)).wn)]) (by kernel_rfl) (by kernel_rfl) (agg_rfl (by kernel_rfl))) ?_
      refine Rg.pure (d := 62) (op := .fieldAddr 44 (.tmp 6) 8) (g := none) (v := .pointer (some ⟨b6, 0 + 10, none⟩)) (by kernel_rfl) (by kernel_rfl) (pv_fieldAddr rfl (n := 10) (by kernel_rfl)) ?_
      refine Rg.pure (d := 63) (op := .load 36 (.tmp 62)) (g := none) (v := .agg #[.int .u32 ((nd ns ((n).toNat)).ts), .int .u32 ((nd ns ((n).toNat)).tn)]) (by kernel_rfl) (by kernel_rfl) (pv_load_blk_agg 1 rfl rfl (vs := #[.int .u32 ((nd ns ((n).toNat)).ts), .int .u32 ((nd ns ((n).toNat)).tn)]) (by kernel_rfl) (by kernel_rfl) (agg_rfl (by kernel_rfl))) ?_
      refine Rg.pure (d := 64) (op := .build 38 #[(0, .tmp 42), (1, .tmp 44), (2, .tmp 47), (3, .tmp 49), (4, .tmp 51), (5, .tmp 53), (6, .tmp 55), (7, .tmp 57), (8, .tmp 59), (9, .tmp 61), (10, .tmp 63)]) (g := none) (v := .agg #[.int .u32 ((nd ns ((n).toNat)).kind), .int .u32 ((nd ns ((n).toNat)).mode), .int .u32 (IntKind.u32.wrap ((nd ns ((n).toNat)).links)), .int .u32 ((nd ns ((n).toNat)).user), .int .u32 ((nd ns ((n).toNat)).group), .int .u64 (IntKind.u64.wrap ((look (upd (upd [] 1 ((nd ns ((n).toNat)).data.length : Int)) 5 (((nd ns ((n).toNat)).target).size : Int) : List (Int × Int)) ((nd ns ((n).toNat)).kind)).getD 0)), .int .u64 (IntKind.u64.wrap ((look (upd (upd [] 1 ((nd ns ((n).toNat)).data.length : Int)) 5 (((nd ns ((n).toNat)).target).size : Int) : List (Int × Int)) ((nd ns ((n).toNat)).kind)).getD 0)), .int .u64 (IntKind.u64.wrap n), .int .u32 ((nd ns ((n).toNat)).rs), .int .u32 ((nd ns ((n).toNat)).rn), .int .u32 ((nd ns ((n).toNat)).ws), .int .u32 ((nd ns ((n).toNat)).wn), .int .u32 ((nd ns ((n).toNat)).ts), .int .u32 ((nd ns ((n).toNat)).tn)]) (by kernel_rfl) (by kernel_rfl) (pv_build (parts := [(0, .tmp 42), (1, .tmp 44), (2, .tmp 47), (3, .tmp 49), (4, .tmp 51), (5, .tmp 53), (6, .tmp 55), (7, .tmp 57), (8, .tmp 59), (9, .tmp 61), (10, .tmp 63)]) (vs := [.int .u32 ((nd ns ((n).toNat)).kind), .int .u32 ((nd ns ((n).toNat)).mode), .int .u32 (IntKind.u32.wrap ((nd ns ((n).toNat)).links)), .int .u32 ((nd ns ((n).toNat)).user), .int .u32 ((nd ns ((n).toNat)).group), .int .u64 (IntKind.u64.wrap ((look (upd (upd [] 1 ((nd ns ((n).toNat)).data.length : Int)) 5 (((nd ns ((n).toNat)).target).size : Int) : List (Int × Int)) ((nd ns ((n).toNat)).kind)).getD 0)), .int .u64 (IntKind.u64.wrap ((look (upd (upd [] 1 ((nd ns ((n).toNat)).data.length : Int)) 5 (((nd ns ((n).toNat)).target).size : Int) : List (Int × Int)) ((nd ns ((n).toNat)).kind)).getD 0)), .int .u64 (IntKind.u64.wrap n), .agg #[.int .u32 ((nd ns ((n).toNat)).rs), .int .u32 ((nd ns ((n).toNat)).rn)], .agg #[.int .u32 ((nd ns ((n).toNat)).ws), .int .u32 ((nd ns ((n).toNat)).wn)], .agg #[.int .u32 ((nd ns ((n).toNat)).ts), .int .u32 ((nd ns ((n).toNat)).tn)]]) (fs := [(0, 1), (1, 1), (2, 1), (3, 1), (4, 1), (5, 1), (6, 1), (7, 1), (8, 2), (10, 2), (12, 2)]) (zv := .agg #[.int .u32 0, .int .u32 0, .int .u32 0, .int .u32 0, .int .u32 0, .int .u64 0, .int .u64 0, .int .u64 0, .int .u32 0, .int .u32 0, .int .u32 0, .int .u32 0, .int .u32 0, .int .u32 0]) (cs := #[.int .u32 ((nd ns ((n).toNat)).kind), .int .u32 ((nd ns ((n).toNat)).mode), .int .u32 (IntKind.u32.wrap ((nd ns ((n).toNat)).links)), .int .u32 ((nd ns ((n).toNat)).user), .int .u32 ((nd ns ((n).toNat)).group), .int .u64 (IntKind.u64.wrap ((look (upd (upd [] 1 ((nd ns ((n).toNat)).data.length : Int)) 5 (((nd ns ((n).toNat)).target).size : Int) : List (Int × Int)) ((nd ns ((n).toNat)).kind)).getD 0)), .int .u64 (IntKind.u64.wrap ((look (upd (upd [] 1 ((nd ns ((n).toNat)).data.length : Int)) 5 (((nd ns ((n).toNat)).target).size : Int) : List (Int × Int)) ((nd ns ((n).toNat)).kind)).getD 0)), .int .u64 (IntKind.u64.wrap n), .int .u32 ((nd ns ((n).toNat)).rs), .int .u32 ((nd ns ((n).toNat)).rn), .int .u32 ((nd ns ((n).toNat)).ws), .int .u32 ((nd ns ((n).toNat)).wn), .int .u32 ((nd ns ((n).toNat)).ts), .int .u32 ((nd ns ((n).toNat)).tn)]) rfl (by kernel_rfl) (by kernel_rfl) (by kernel_rfl)) ?_
      refine rg_store (t := 38) (x := .tmp 4) (y := .tmp 64) (g := none) (cs' := #[.int .u32 ((nd ns ((n).toNat)).kind), .int .u32 ((nd ns ((n).toNat)).mode), .int .u32 (IntKind.u32.wrap ((nd ns ((n).toNat)).links)), .int .u32 ((nd ns ((n).toNat)).user), .int .u32 ((nd ns ((n).toNat)).group), .int .u64 (IntKind.u64.wrap ((look (upd (upd [] 1 ((nd ns ((n).toNat)).data.length : Int)) 5 (((nd ns ((n).toNat)).target).size : Int) : List (Int × Int)) ((nd ns ((n).toNat)).kind)).getD 0)), .int .u64 (IntKind.u64.wrap ((look (upd (upd [] 1 ((nd ns ((n).toNat)).data.length : Int)) 5 (((nd ns ((n).toNat)).target).size : Int) : List (Int × Int)) ((nd ns ((n).toNat)).kind)).getD 0)), .int .u64 (IntKind.u64.wrap n), .int .u32 ((nd ns ((n).toNat)).rs), .int .u32 ((nd ns ((n).toNat)).rn), .int .u32 ((nd ns ((n).toNat)).ws), .int .u32 ((nd ns ((n).toNat)).wn), .int .u32 ((nd ns ((n).toNat)).ts), .int .u32 ((nd ns ((n).toNat)).tn)]) 2 (by kernel_rfl) (by kernel_rfl) rfl rfl rfl (by kernel_rfl) (Nat.le_of_ble_eq_true (by kernel_rfl)) (by kernel_rfl) (by kernel_rfl) ?_
      refine Rg.pure (d := 5) (op := .assign (.const (.bool true))) (g := none) (v := .bool true) (by kernel_rfl) (by kernel_rfl) (pv_assign rfl) ?_
      refine Rg.fin rfl ?_
      refine at_codeS [0, 1, 2, 3, 4] [(4, _), (5, _)] [mapItem (intKey .u32) r7 (upd (upd [] 1 ((nd ns ((n).toNat)).data.length : Int)) 5 (((nd ns ((n).toNat)).target).size : Int) : List (Int × Int)), blk b6 (.cells ((nd ns ((n).toNat)).cells) 44 (0, 0)), blk b2 (.cells #[.int .u32 ((nd ns ((n).toNat)).kind), .int .u32 ((nd ns ((n).toNat)).mode), .int .u32 (IntKind.u32.wrap ((nd ns ((n).toNat)).links)), .int .u32 ((nd ns ((n).toNat)).user), .int .u32 ((nd ns ((n).toNat)).group), .int .u64 (IntKind.u64.wrap ((look (upd (upd [] 1 ((nd ns ((n).toNat)).data.length : Int)) 5 (((nd ns ((n).toNat)).target).size : Int) : List (Int × Int)) ((nd ns ((n).toNat)).kind)).getD 0)), .int .u64 (IntKind.u64.wrap ((look (upd (upd [] 1 ((nd ns ((n).toNat)).data.length : Int)) 5 (((nd ns ((n).toNat)).target).size : Int) : List (Int × Int)) ((nd ns ((n).toNat)).kind)).getD 0)), .int .u64 (IntKind.u64.wrap n), .int .u32 ((nd ns ((n).toNat)).rs), .int .u32 ((nd ns ((n).toNat)).rn), .int .u32 ((nd ns ((n).toNat)).ws), .int .u32 ((nd ns ((n).toNat)).wn), .int .u32 ((nd ns ((n).toNat)).ts), .int .u32 ((nd ns ((n).toNat)).tn)] 38 (0, 0)), blk b1 (.cells #[.slice p ns.length cap, .int .u32 gen] 25 (0, 0)), base w (Low w)] (.cons rfl (.cons rfl (.nil _))) rfl (by decide) (fun _ _ h => h) ?_
      refine ev_ret (by kernel_rfl) ?_
      refine At.via (Q := Q) hQ ?_
      refine At.retCell2 rfl rfl (reads_cellA 2 rfl rfl (by kernel_rfl) (by kernel_rfl)) (reads_tmp rfl) ?_
      exact fun w hw => ⟨(by unfold attrsS attrsC sizeS; rw [(show thereS ns n = true by simpa using h1)]; (have e2_ := h7); unfold sizeL; rw [e2_]; rfl), hw.base_below 4 rfl⟩

def attrKind (ns : List Node) (n : Int) : Int := cond (!thereS ns n) 0 (nd ns n.toNat).kind
def attrLinks (ns : List Node) (n : Int) : Int := cond (!thereS ns n) 0 (IntKind.u32.wrap (nd ns n.toNat).links)
def attrSize (ns : List Node) (n : Int) : Int := cond (!thereS ns n) 0 (IntKind.u64.wrap (sizeS (nd ns n.toNat)))
def attrID (ns : List Node) (n : Int) : Int := cond (!thereS ns n) 0 (IntKind.u64.wrap n)
theorem attrs_0 (ns : List Node) (n : Int) : (attrsS ns n)[0]? = some (.int .u32 (attrKind ns n)) := by unfold attrsS attrKind; cases thereS ns n <;> rfl
theorem attrs_2 (ns : List Node) (n : Int) : (attrsS ns n)[2]? = some (.int .u32 (attrLinks ns n)) := by unfold attrsS attrLinks; cases thereS ns n <;> rfl
theorem attrs_5 (ns : List Node) (n : Int) : (attrsS ns n)[5]? = some (.int .u64 (attrSize ns n)) := by unfold attrsS attrSize; cases thereS ns n <;> rfl
theorem attrs_7 (ns : List Node) (n : Int) : (attrsS ns n)[7]? = some (.int .u64 (attrID ns n)) := by unfold attrsS attrID; cases thereS ns n <;> rfl
theorem attrs_size (ns : List Node) (n : Int) : (attrsS ns n).size = 14 := by unfold attrsS; cases thereS ns n <;> rfl
theorem attrs_one (ns : List Node) (n : Int) : ((attrsS ns n).toList.all (·.oneCell')) = true := by unfold attrsS; cases thereS ns n <;> rfl
theorem attrs_put (ns : List Node) (n : Int) (cs : Array Value) (h : cs.size = 14) : putCells cs 0 (attrsS ns n).toList = attrsS ns n := by
  apply Array.ext_getElem?
  intro j
  rw [putCells_get]
  simp only [Array.length_toList, attrs_size, Nat.zero_le, true_and, h, Nat.zero_add, and_self, Nat.sub_zero]
  by_cases hj : j < 14
  · rw [if_pos hj]; simp
  · rw [if_neg hj, Array.getElem?_eq_none (by omega), Array.getElem?_eq_none (by rw [attrs_size]; omega)]

end Go.Proofs.Ytfhhggcdmgjbcaa.Sx
