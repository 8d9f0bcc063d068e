/-
  A part of the walk of the seat: laws of a small proof system, and contracts of functions, each proved. Conditions: as each theorem says.
-/
import Derived.Test.YtfhhggcdmgjbcaaProg
import Derived.Test.YtfhhggcdmgjbcaaT11
namespace Go.Proofs.Ytfhhggcdmgjbcaa.Sx
open Go Go.RowKit Go.Proofs

def verfL (v : V8) : List Int := [v.a0, v.a1, v.a2, v.a3, v.a4, v.a5, v.a6, v.a7]
def fileS (n : Node) : Bool := decide ((n.data.length : Int) = 0) && decide (verfL n.verf = [0, 0, 0, 0, 0, 0, 0, 0])
def listS (n : Node) : Bool := (decide ((n.list.length : Int) = 0) && decide (n.parent = 0)) && decide (n.next = 0)
def timeZ (a b : Int) : Bool := decide (a = 0) && (decide (b = 0) && true)
noncomputable def onlyS (n : Node) : Bool :=
  cond (decide (n.kind = 0)) ((((((((fileS n && decide (n.target = ⟨#[]⟩)) && listS n) && decide (bitsI .or .u32 (bitsI .or .u32 (bitsI .or .u32 n.gen n.mode) n.user) n.group = 0)) && decide (n.links = 0)) && timeZ n.rs n.rn) && timeZ n.ws n.wn) && timeZ n.ts n.tn)) <|
  cond (decide (n.kind = 1)) ((decide (n.target = ⟨#[]⟩) && listS n) && decide ((n.data.length : Int) ≤ 65536)) <|
  cond (decide (n.kind = 5)) ((fileS n && listS n) && decide (pathS n.target = 0))
    ((decide (n.kind = 2) && fileS n) && decide (n.target = ⟨#[]⟩))

set_option maxHeartbeats 8000000 in
theorem only_calls {n : Node} {w : World} (hW : NodeWf n) :
    Calls Try.prog 57 #[.agg n.cells] w (Ret w (.bool (onlyS n))) := by
  refine calls_ofQ (args := [_]) [base w (Low w)] Try.func57 (by kernel_rfl) (by kernel_rfl) (Heap.start w) ?_
  intro Q hQ
  refine ev_seq (by kernel_rfl) ?_
  refine ev_region (n := 2) (by kernel_rfl) ?_
  refine rg_box (d := 1) (t := 44) (x := .tmp 0) (g := none) (by kernel_rfl) (by kernel_rfl) rfl ?_
  intro b1
  refine Rg.pure (d := 2) (op := .assign (.const (.bool false))) (g := none) (v := .bool false) (by kernel_rfl) (by kernel_rfl) (pv_assign rfl) ?_
  refine Rg.fin rfl ?_
  refine at_codeS [0, 1] [(1, _), (2, _)] [blk b1 (.cells n.cells 44 (0, 0)), base w (Low w)] (.cons rfl (.cons rfl (.nil _))) rfl (by decide) (fun _ _ h => h) ?_
  refine ev_seq (by kernel_rfl) ?_
  refine ev_region (n := 11) (by kernel_rfl) ?_
  refine Rg.pure (d := 5) (op := .fieldAddr 44 (.tmp 1) 9) (g := none) (v := .pointer (some ⟨b1, 0 + 12, none⟩)) (by kernel_rfl) (by kernel_rfl) (pv_fieldAddr rfl (n := 12) (by kernel_rfl)) ?_
  refine Rg.pure (d := 6) (op := .load 29 (.tmp 5)) (g := none) (v := .slice n.dA n.data.length n.dCap) (by kernel_rfl) (by kernel_rfl) (pv_load_blk 0 rfl rfl (by kernel_rfl) rfl) ?_
  refine Rg.pure (d := 7) (op := .call { callee := .builtin .len, args := #[.tmp 6], argTypes := #[29] }) (g := none) (v := .int .i64 (n.data.length : Int)) (by kernel_rfl) (by kernel_rfl) (pv_len_slice rfl (by kernel_rfl)) ?_
  refine Rg.pure (d := 8) (op := .binOp .eql 3 (.tmp 7) (.const (.int .i64 0)) 3) (g := none) (v := .bool (decide ((n.data.length : Int) = 0))) (by kernel_rfl) (by kernel_rfl) (pv_eql rfl rfl) ?_
  refine Rg.pure (d := 9) (op := .move (.tmp 8)) (g := none) (v := .bool (decide ((n.data.length : Int) = 0))) (by kernel_rfl) (by kernel_rfl) (pv_move rfl) ?_
  refine Rg.split 10 [(14, .bool ((decide ((n.data.length : Int) = 0)) && (decide ([n.verf.a0, n.verf.a1, n.verf.a2, n.verf.a3, n.verf.a4, n.verf.a5, n.verf.a6, n.verf.a7] = [0, 0, 0, 0, 0, 0, 0, 0])))), (1, .pointer (some ⟨b1, 0, none⟩)), (2, .bool false)] [blk b1 (.cells n.cells 44 (0, 0)), base w (Low w)] (s := 9) (g := decide ((n.data.length : Int) = 0)) rfl (by decide) (fun h1 => ?_) (fun h1 => ?_) ?_
  ·
    have h2 := of_decide_eq_true h1
    refine Rg.pure (d := 10) (op := .fieldAddr 44 (.tmp 1) 10) (g := some (4, true)) (v := .pointer (some ⟨b1, 0 + 13, none⟩)) (by kernel_rfl) (by kernel_rfl) (pv_fieldAddr rfl (n := 13) (by kernel_rfl)) ?_
    refine Rg.pure (d := 11) (op := .load 41 (.tmp 10)) (g := some (4, true)) (v := .agg #[.int .u8 n.verf.a0, .int .u8 n.verf.a1, .int .u8 n.verf.a2, .int .u8 n.verf.a3, .int .u8 n.verf.a4, .int .u8 n.verf.a5, .int .u8 n.verf.a6, .int .u8 n.verf.a7]) (by kernel_rfl) (by kernel_rfl) (pv_load_blk_agg 0 rfl rfl (vs := #[.int .u8 n.verf.a0, .int .u8 n.verf.a1, .int .u8 n.verf.a2, .int .u8 n.verf.a3, .int .u8 n.verf.a4, .int .u8 n.verf.a5, .int .u8 n.verf.a6, .int .u8 n.verf.a7]) (by kernel_rfl) (by kernel_rfl) (agg_rfl (by kernel_rfl))) ?_
    refine Rg.pure (d := 12) (op := .build 41 #[]) (g := some (4, true)) (v := .agg #[.int .u8 0, .int .u8 0, .int .u8 0, .int .u8 0, .int .u8 0, .int .u8 0, .int .u8 0, .int .u8 0]) (by kernel_rfl) (by kernel_rfl) (pv_buildArr (e := 5) (sz := 1) (n := 8) (parts := []) (vs := []) (zv := .agg #[.int .u8 0, .int .u8 0, .int .u8 0, .int .u8 0, .int .u8 0, .int .u8 0, .int .u8 0, .int .u8 0]) (cs := #[.int .u8 0, .int .u8 0, .int .u8 0, .int .u8 0, .int .u8 0, .int .u8 0, .int .u8 0, .int .u8 0]) rfl (by kernel_rfl) (by kernel_rfl) (by kernel_rfl) (by kernel_rfl)) ?_
    refine Rg.pure (d := 13) (op := .binOp .eql 41 (.tmp 11) (.tmp 12) 41) (g := some (4, true)) (v := .bool (decide ([n.verf.a0, n.verf.a1, n.verf.a2, n.verf.a3, n.verf.a4, n.verf.a5, n.verf.a6, n.verf.a7] = [0, 0, 0, 0, 0, 0, 0, 0]))) (by kernel_rfl) (by kernel_rfl) (pv_eql_arr (n := 8) (e := 5) (q := .u8) (us := [n.verf.a0, n.verf.a1, n.verf.a2, n.verf.a3, n.verf.a4, n.verf.a5, n.verf.a6, n.verf.a7]) (vs := [0, 0, 0, 0, 0, 0, 0, 0]) rfl rfl (by kernel_rfl) (by kernel_rfl) (by kernel_rfl) (by kernel_rfl) rfl rfl) ?_
    refine Rg.pure (d := 14) (op := .pick (.tmp 9) (.tmp 13) (.const (.bool false))) (g := none) (v := .bool (decide ([n.verf.a0, n.verf.a1, n.verf.a2, n.verf.a3, n.verf.a4, n.verf.a5, n.verf.a6, n.verf.a7] = [0, 0, 0, 0, 0, 0, 0, 0]))) (by kernel_rfl) (by kernel_rfl) (pv_pick_t rfl rfl) ?_
    refine Rg.fin rfl (At.mid [0, 1] (.cons (and_of_t h1 rfl) (.cons (rfl) (.cons (rfl) (.nil _)))) rfl (by decide))
  ·
    refine Rg.skips 9 (by kernel_rfl) ?_
    refine Rg.pure (d := 14) (op := .pick (.tmp 9) (.tmp 13) (.const (.bool false))) (g := none) (v := .bool false) (by kernel_rfl) (by kernel_rfl) (pv_pick_f rfl rfl) ?_
    refine Rg.fin rfl (At.mid [0, 1] (.cons (and_of_f h1 rfl) (.cons (rfl) (.cons (rfl) (.nil _)))) rfl (by decide))
  refine Rg.pure (d := 3) (op := .assign (.tmp 14)) (g := none) (v := .bool ((decide ((n.data.length : Int) = 0)) && (decide ([n.verf.a0, n.verf.a1, n.verf.a2, n.verf.a3, n.verf.a4, n.verf.a5, n.verf.a6, n.verf.a7] = [0, 0, 0, 0, 0, 0, 0, 0])))) (by kernel_rfl) (by kernel_rfl) (pv_assign rfl) ?_
  refine Rg.fin rfl ?_
  refine at_codeS [0, 1] [(1, _), (2, _), (3, _)] [blk b1 (.cells n.cells 44 (0, 0)), base w (Low w)] (.cons rfl (.cons rfl (.cons rfl (.nil _)))) rfl (by decide) (fun _ _ h => h) ?_
  refine ev_seq (by kernel_rfl) ?_
  refine ev_region (n := 15) (by kernel_rfl) ?_
  refine Rg.pure (d := 15) (op := .fieldAddr 44 (.tmp 1) 12) (g := none) (v := .pointer (some ⟨b1, 0 + 22, none⟩)) (by kernel_rfl) (by kernel_rfl) (pv_fieldAddr rfl (n := 22) (by kernel_rfl)) ?_
  refine Rg.pure (d := 16) (op := .load 42 (.tmp 15)) (g := none) (v := .slice n.lA n.list.length n.lCap) (by kernel_rfl) (by kernel_rfl) (pv_load_blk 0 rfl rfl (by kernel_rfl) rfl) ?_
  refine Rg.pure (d := 17) (op := .call { callee := .builtin .len, args := #[.tmp 16], argTypes := #[42] }) (g := none) (v := .int .i64 (n.list.length : Int)) (by kernel_rfl) (by kernel_rfl) (pv_len_slice rfl (by kernel_rfl)) ?_
  refine Rg.pure (d := 18) (op := .binOp .eql 3 (.tmp 17) (.const (.int .i64 0)) 3) (g := none) (v := .bool (decide ((n.list.length : Int) = 0))) (by kernel_rfl) (by kernel_rfl) (pv_eql rfl rfl) ?_
  refine Rg.pure (d := 19) (op := .move (.tmp 18)) (g := none) (v := .bool (decide ((n.list.length : Int) = 0))) (by kernel_rfl) (by kernel_rfl) (pv_move rfl) ?_
  refine Rg.split 9 [(23, .bool ((decide ((n.list.length : Int) = 0)) && (decide (n.parent = 0)))), (1, .pointer (some ⟨b1, 0, none⟩)), (2, .bool false), (3, .bool ((decide ((n.data.length : Int) = 0)) && (decide ([n.verf.a0, n.verf.a1, n.verf.a2, n.verf.a3, n.verf.a4, n.verf.a5, n.verf.a6, n.verf.a7] = [0, 0, 0, 0, 0, 0, 0, 0]))))] [blk b1 (.cells n.cells 44 (0, 0)), base w (Low w)] (s := 19) (g := decide ((n.list.length : Int) = 0)) rfl (by decide) (fun h3 => ?_) (fun h3 => ?_) ?_
  ·
    have h4 := of_decide_eq_true h3
    refine Rg.pure (d := 20) (op := .fieldAddr 44 (.tmp 1) 13) (g := some (4, true)) (v := .pointer (some ⟨b1, 0 + 23, none⟩)) (by kernel_rfl) (by kernel_rfl) (pv_fieldAddr rfl (n := 23) (by kernel_rfl)) ?_
    refine Rg.pure (d := 21) (op := .load 3 (.tmp 20)) (g := some (4, true)) (v := .int .i64 n.parent) (by kernel_rfl) (by kernel_rfl) (pv_load_blk 0 rfl rfl (by kernel_rfl) rfl) ?_
    refine Rg.pure (d := 22) (op := .binOp .eql 3 (.tmp 21) (.const (.int .i64 0)) 3) (g := some (4, true)) (v := .bool (decide (n.parent = 0))) (by kernel_rfl) (by kernel_rfl) (pv_eql rfl rfl) ?_
    refine Rg.pure (d := 23) (op := .pick (.tmp 19) (.tmp 22) (.const (.bool false))) (g := none) (v := .bool (decide (n.parent = 0))) (by kernel_rfl) (by kernel_rfl) (pv_pick_t rfl rfl) ?_
    refine Rg.fin rfl (At.mid [0, 1] (.cons (and_of_t h3 rfl) (.cons (rfl) (.cons (rfl) (.cons (rfl) (.nil _))))) rfl (by decide))
  ·
    refine Rg.skips 8 (by kernel_rfl) ?_
    refine Rg.pure (d := 23) (op := .pick (.tmp 19) (.tmp 22) (.const (.bool false))) (g := none) (v := .bool false) (by kernel_rfl) (by kernel_rfl) (pv_pick_f rfl rfl) ?_
    refine Rg.fin rfl (At.mid [0, 1] (.cons (and_of_f h3 rfl) (.cons (rfl) (.cons (rfl) (.cons (rfl) (.nil _))))) rfl (by decide))
  refine Rg.pure (d := 24) (op := .move (.tmp 23)) (g := none) (v := .bool ((decide ((n.list.length : Int) = 0)) && (decide (n.parent = 0)))) (by kernel_rfl) (by kernel_rfl) (pv_move rfl) ?_
  refine Rg.split 14 [(28, .bool (((decide ((n.list.length : Int) = 0)) && (decide (n.parent = 0))) && (decide (n.next = 0)))), (1, .pointer (some ⟨b1, 0, none⟩)), (2, .bool false), (3, .bool ((decide ((n.data.length : Int) = 0)) && (decide ([n.verf.a0, n.verf.a1, n.verf.a2, n.verf.a3, n.verf.a4, n.verf.a5, n.verf.a6, n.verf.a7] = [0, 0, 0, 0, 0, 0, 0, 0]))))] [blk b1 (.cells n.cells 44 (0, 0)), base w (Low w)] (s := 24) (g := (decide ((n.list.length : Int) = 0)) && (decide (n.parent = 0))) rfl (by decide) (fun h5 => ?_) (fun h5 => ?_) ?_
  ·
    have ⟨h6, h7⟩ := and_t h5
    have h8 := of_decide_eq_true h6
    have h9 := of_decide_eq_true h7
    refine Rg.pure (d := 25) (op := .fieldAddr 44 (.tmp 1) 14) (g := some (9, true)) (v := .pointer (some ⟨b1, 0 + 24, none⟩)) (by kernel_rfl) (by kernel_rfl) (pv_fieldAddr rfl (n := 24) (by kernel_rfl)) ?_
    refine Rg.pure (d := 26) (op := .load 34 (.tmp 25)) (g := some (9, true)) (v := .int .u64 n.next) (by kernel_rfl) (by kernel_rfl) (pv_load_blk 0 rfl rfl (by kernel_rfl) rfl) ?_
    refine Rg.pure (d := 27) (op := .binOp .eql 34 (.tmp 26) (.const (.int .u64 0)) 34) (g := some (9, true)) (v := .bool (decide (n.next = 0))) (by kernel_rfl) (by kernel_rfl) (pv_eql rfl rfl) ?_
    refine Rg.pure (d := 28) (op := .pick (.tmp 24) (.tmp 27) (.const (.bool false))) (g := none) (v := .bool (decide (n.next = 0))) (by kernel_rfl) (by kernel_rfl) (pv_pick_t rfl rfl) ?_
    refine Rg.fin rfl (At.mid [0, 1] (.cons (and_of_t h5 rfl) (.cons (rfl) (.cons (rfl) (.cons (rfl) (.nil _))))) rfl (by decide))
  ·
    refine Rg.skips 13 (by kernel_rfl) ?_
    refine Rg.pure (d := 28) (op := .pick (.tmp 24) (.tmp 27) (.const (.bool false))) (g := none) (v := .bool false) (by kernel_rfl) (by kernel_rfl) (pv_pick_f rfl rfl) ?_
    refine Rg.fin rfl (At.mid [0, 1] (.cons (and_of_f h5 rfl) (.cons (rfl) (.cons (rfl) (.cons (rfl) (.nil _))))) rfl (by decide))
  refine Rg.pure (d := 4) (op := .assign (.tmp 28)) (g := none) (v := .bool (((decide ((n.list.length : Int) = 0)) && (decide (n.parent = 0))) && (decide (n.next = 0)))) (by kernel_rfl) (by kernel_rfl) (pv_assign rfl) ?_
  refine Rg.fin rfl ?_
  refine at_codeS [0, 1] [(1, _), (2, _), (3, _), (4, _)] [blk b1 (.cells n.cells 44 (0, 0)), base w (Low w)] (.cons rfl (.cons rfl (.cons rfl (.cons rfl (.nil _))))) rfl (by decide) (fun _ _ h => h) ?_
  refine ev_seq (by kernel_rfl) ?_
  refine ev_seq (by kernel_rfl) ?_
  refine ev_region (n := 2) (by kernel_rfl) ?_
  refine Rg.pure (d := 29) (op := .fieldAddr 44 (.tmp 1) 0) (g := none) (v := .pointer (some ⟨b1, 0 + 0, none⟩)) (by kernel_rfl) (by kernel_rfl) (pv_fieldAddr rfl (n := 0) (by kernel_rfl)) ?_
  refine Rg.pure (d := 30) (op := .load 33 (.tmp 29)) (g := none) (v := .int .u32 n.kind) (by kernel_rfl) (by kernel_rfl) (pv_load_blk 0 rfl rfl (by kernel_rfl) rfl) ?_
  refine Rg.fin rfl ?_
  refine at_codeS [0, 1] [(1, _), (2, _), (3, _), (4, _), (30, _)] [blk b1 (.cells n.cells 44 (0, 0)), base w (Low w)] (.cons rfl (.cons rfl (.cons rfl (.cons rfl (.cons rfl (.nil _)))))) rfl (by decide) (fun _ _ h => h) ?_
  refine ev_block (id := 0) (by kernel_rfl) ?_
  refine ev_seq (by kernel_rfl) ?_
  refine ev_region (n := 2) (by kernel_rfl) ?_
  refine Rg.pure (d := 32) (op := .binOp .eql 33 (.tmp 30) (.const (.int .u32 0)) 33) (g := none) (v := .bool (decide (n.kind = 0))) (by kernel_rfl) (by kernel_rfl) (pv_eql rfl rfl) ?_
  refine Rg.pure (d := 31) (op := .assign (.tmp 32)) (g := none) (v := .bool (decide (n.kind = 0))) (by kernel_rfl) (by kernel_rfl) (pv_assign rfl) ?_
  refine Rg.fin rfl ?_
  refine at_codeS [0, 1] [(1, _), (2, _), (3, _), (4, _), (30, _), (31, _)] [blk b1 (.cells n.cells 44 (0, 0)), base w (Low w)] (.cons rfl (.cons rfl (.cons rfl (.cons rfl (.cons rfl (.cons rfl (.nil _))))))) rfl (by decide) (fun _ _ h => h) ?_
  refine ev_cond (t := 31) (by kernel_rfl) rfl (fun h10 => ?_) (fun h10 => ?_)
  ·
    have h11 := of_decide_eq_true h10
    refine ev_seq (by kernel_rfl) ?_
    refine ev_region (n := 47) (by kernel_rfl) ?_
    refine Rg.pure (d := 33) (op := .move (.tmp 3)) (g := none) (v := .bool ((decide ((n.data.length : Int) = 0)) && (decide ([n.verf.a0, n.verf.a1, n.verf.a2, n.verf.a3, n.verf.a4, n.verf.a5, n.verf.a6, n.verf.a7] = [0, 0, 0, 0, 0, 0, 0, 0])))) (by kernel_rfl) (by kernel_rfl) (pv_move rfl) ?_
    refine Rg.pure (d := 34) (op := .move (.tmp 33)) (g := none) (v := .bool ((decide ((n.data.length : Int) = 0)) && (decide ([n.verf.a0, n.verf.a1, n.verf.a2, n.verf.a3, n.verf.a4, n.verf.a5, n.verf.a6, n.verf.a7] = [0, 0, 0, 0, 0, 0, 0, 0])))) (by kernel_rfl) (by kernel_rfl) (pv_move rfl) ?_
    refine Rg.split 6 [(38, .bool (((decide ((n.data.length : Int) = 0)) && (decide ([n.verf.a0, n.verf.a1, n.verf.a2, n.verf.a3, n.verf.a4, n.verf.a5, n.verf.a6, n.verf.a7] = [0, 0, 0, 0, 0, 0, 0, 0]))) && (decide (n.target = ⟨#[]⟩)))), (1, .pointer (some ⟨b1, 0, none⟩)), (2, .bool false), (3, .bool ((decide ((n.data.length : Int) = 0)) && (decide ([n.verf.a0, n.verf.a1, n.verf.a2, n.verf.a3, n.verf.a4, n.verf.a5, n.verf.a6, n.verf.a7] = [0, 0, 0, 0, 0, 0, 0, 0])))), (4, .bool (((decide ((n.list.length : Int) = 0)) && (decide (n.parent = 0))) && (decide (n.next = 0))))] [blk b1 (.cells n.cells 44 (0, 0)), base w (Low w)] (s := 34) (g := (decide ((n.data.length : Int) = 0)) && (decide ([n.verf.a0, n.verf.a1, n.verf.a2, n.verf.a3, n.verf.a4, n.verf.a5, n.verf.a6, n.verf.a7] = [0, 0, 0, 0, 0, 0, 0, 0]))) rfl (by decide) (fun h12 => ?_) (fun h12 => ?_) ?_
    ·
      have ⟨h13, h14⟩ := and_t h12
      have h15 := of_decide_eq_true h13
      have h16 := of_decide_eq_true h14
      refine Rg.pure (d := 35) (op := .fieldAddr 44 (.tmp 1) 11) (g := some (1, true)) (v := .pointer (some ⟨b1, 0 + 21, none⟩)) (by kernel_rfl) (by kernel_rfl) (pv_fieldAddr rfl (n := 21) (by kernel_rfl)) ?_
      refine Rg.pure (d := 36) (op := .load 9 (.tmp 35)) (g := some (1, true)) (v := .string n.target) (by kernel_rfl) (by kernel_rfl) (pv_load_blk 0 rfl rfl (by kernel_rfl) rfl) ?_
      refine Rg.pure (d := 37) (op := .binOp .eql 9 (.tmp 36) (.const (.string ⟨#[]⟩)) 9) (g := some (1, true)) (v := .bool (decide (n.target = ⟨#[]⟩))) (by kernel_rfl) (by kernel_rfl) (pv_eql_str rfl rfl) ?_
      refine Rg.pure (d := 38) (op := .pick (.tmp 34) (.tmp 37) (.const (.bool false))) (g := none) (v := .bool (decide (n.target = ⟨#[]⟩))) (by kernel_rfl) (by kernel_rfl) (pv_pick_t rfl rfl) ?_
      refine Rg.fin rfl (At.mid [0, 1] (.cons (and_of_t h12 rfl) (.cons (rfl) (.cons (rfl) (.cons (rfl) (.cons (rfl) (.nil _)))))) rfl (by decide))
    ·
      refine Rg.skips 5 (by kernel_rfl) ?_
      refine Rg.pure (d := 38) (op := .pick (.tmp 34) (.tmp 37) (.const (.bool false))) (g := none) (v := .bool false) (by kernel_rfl) (by kernel_rfl) (pv_pick_f rfl rfl) ?_
      refine Rg.fin rfl (At.mid [0, 1] (.cons (and_of_f h12 rfl) (.cons (rfl) (.cons (rfl) (.cons (rfl) (.cons (rfl) (.nil _)))))) rfl (by decide))
    refine Rg.pure (d := 39) (op := .move (.tmp 38)) (g := none) (v := .bool (((decide ((n.data.length : Int) = 0)) && (decide ([n.verf.a0, n.verf.a1, n.verf.a2, n.verf.a3, n.verf.a4, n.verf.a5, n.verf.a6, n.verf.a7] = [0, 0, 0, 0, 0, 0, 0, 0]))) && (decide (n.target = ⟨#[]⟩)))) (by kernel_rfl) (by kernel_rfl) (pv_move rfl) ?_
    refine Rg.split 9 [(41, .bool ((((decide ((n.data.length : Int) = 0)) && (decide ([n.verf.a0, n.verf.a1, n.verf.a2, n.verf.a3, n.verf.a4, n.verf.a5, n.verf.a6, n.verf.a7] = [0, 0, 0, 0, 0, 0, 0, 0]))) && (decide (n.target = ⟨#[]⟩))) && (((decide ((n.list.length : Int) = 0)) && (decide (n.parent = 0))) && (decide (n.next = 0))))), (1, .pointer (some ⟨b1, 0, none⟩)), (2, .bool false), (3, .bool ((decide ((n.data.length : Int) = 0)) && (decide ([n.verf.a0, n.verf.a1, n.verf.a2, n.verf.a3, n.verf.a4, n.verf.a5, n.verf.a6, n.verf.a7] = [0, 0, 0, 0, 0, 0, 0, 0]))))] [blk b1 (.cells n.cells 44 (0, 0)), base w (Low w)] (s := 39) (g := ((decide ((n.data.length : Int) = 0)) && (decide ([n.verf.a0, n.verf.a1, n.verf.a2, n.verf.a3, n.verf.a4, n.verf.a5, n.verf.a6, n.verf.a7] = [0, 0, 0, 0, 0, 0, 0, 0]))) && (decide (n.target = ⟨#[]⟩))) rfl (by decide) (fun h17 => ?_) (fun h17 => ?_) ?_
    ·
      have ⟨h18, h19⟩ := and_t h17
      have ⟨h20, h21⟩ := and_t h18
      have h22 := of_decide_eq_true h20
      have h23 := of_decide_eq_true h21
      have h24 := of_decide_eq_true h19
      refine Rg.pure (d := 40) (op := .move (.tmp 4)) (g := some (6, true)) (v := .bool (((decide ((n.list.length : Int) = 0)) && (decide (n.parent = 0))) && (decide (n.next = 0)))) (by kernel_rfl) (by kernel_rfl) (pv_move rfl) ?_
      refine Rg.pure (d := 41) (op := .pick (.tmp 39) (.tmp 40) (.const (.bool false))) (g := none) (v := .bool (((decide ((n.list.length : Int) = 0)) && (decide (n.parent = 0))) && (decide (n.next = 0)))) (by kernel_rfl) (by kernel_rfl) (pv_pick_t rfl rfl) ?_
      refine Rg.fin rfl (At.mid [0, 1] (.cons (and_of_t h17 rfl) (.cons (rfl) (.cons (rfl) (.cons (rfl) (.nil _))))) rfl (by decide))
    ·
      refine Rg.skips 8 (by kernel_rfl) ?_
      refine Rg.pure (d := 41) (op := .pick (.tmp 39) (.tmp 40) (.const (.bool false))) (g := none) (v := .bool false) (by kernel_rfl) (by kernel_rfl) (pv_pick_f rfl rfl) ?_
      refine Rg.fin rfl (At.mid [0, 1] (.cons (and_of_f h17 rfl) (.cons (rfl) (.cons (rfl) (.cons (rfl) (.nil _))))) rfl (by decide))
    refine Rg.pure (d := 42) (op := .move (.tmp 41)) (g := none) (v := .bool ((((decide ((n.data.length : Int) = 0)) && (decide ([n.verf.a0, n.verf.a1, n.verf.a2, n.verf.a3, n.verf.a4, n.verf.a5, n.verf.a6, n.verf.a7] = [0, 0, 0, 0, 0, 0, 0, 0]))) && (decide (n.target = ⟨#[]⟩))) && (((decide ((n.list.length : Int) = 0)) && (decide (n.parent = 0))) && (decide (n.next = 0))))) (by kernel_rfl) (by kernel_rfl) (pv_move rfl) ?_
    refine Rg.split 23 [(55, .bool (((((decide ((n.data.length : Int) = 0)) && (decide ([n.verf.a0, n.verf.a1, n.verf.a2, n.verf.a3, n.verf.a4, n.verf.a5, n.verf.a6, n.verf.a7] = [0, 0, 0, 0, 0, 0, 0, 0]))) && (decide (n.target = ⟨#[]⟩))) && (((decide ((n.list.length : Int) = 0)) && (decide (n.parent = 0))) && (decide (n.next = 0)))) && (decide ((bitsI .or .u32 (bitsI .or .u32 (bitsI .or .u32 n.gen n.mode) n.user) n.group) = 0)))), (1, .pointer (some ⟨b1, 0, none⟩)), (2, .bool false), (3, .bool ((decide ((n.data.length : Int) = 0)) && (decide ([n.verf.a0, n.verf.a1, n.verf.a2, n.verf.a3, n.verf.a4, n.verf.a5, n.verf.a6, n.verf.a7] = [0, 0, 0, 0, 0, 0, 0, 0]))))] [blk b1 (.cells n.cells 44 (0, 0)), base w (Low w)] (s := 42) (g := (((decide ((n.data.length : Int) = 0)) && (decide ([n.verf.a0, n.verf.a1, n.verf.a2, n.verf.a3, n.verf.a4, n.verf.a5, n.verf.a6, n.verf.a7] = [0, 0, 0, 0, 0, 0, 0, 0]))) && (decide (n.target = ⟨#[]⟩))) && (((decide ((n.list.length : Int) = 0)) && (decide (n.parent = 0))) && (decide (n.next = 0)))) rfl (by decide) (fun h25 => ?_) (fun h25 => ?_) ?_
    ·
      have ⟨h26, h27⟩ := and_t h25
      have ⟨h28, h29⟩ := and_t h26
      have ⟨h30, h31⟩ := and_t h28
      have h32 := of_decide_eq_true h30
      have h33 := of_decide_eq_true h31
      have h34 := of_decide_eq_true h29
      have ⟨h35, h36⟩ := and_t h27
      have ⟨h37, h38⟩ := and_t h35
      have h39 := of_decide_eq_true h37
      have h40 := of_decide_eq_true h38
      have h41 := of_decide_eq_true h36
      refine Rg.pure (d := 43) (op := .fieldAddr 44 (.tmp 1) 1) (g := some (9, true)) (v := .pointer (some ⟨b1, 0 + 1, none⟩)) (by kernel_rfl) (by kernel_rfl) (pv_fieldAddr rfl (n := 1) (by kernel_rfl)) ?_
      refine Rg.pure (d := 44) (op := .load 23 (.tmp 43)) (g := some (9, true)) (v := .int .u32 n.gen) (by kernel_rfl) (by kernel_rfl) (pv_load_blk 0 rfl rfl (by kernel_rfl) rfl) ?_
      refine Rg.pure (d := 45) (op := .fieldAddr 44 (.tmp 1) 2) (g := some (9, true)) (v := .pointer (some ⟨b1, 0 + 2, none⟩)) (by kernel_rfl) (by kernel_rfl) (pv_fieldAddr rfl (n := 2) (by kernel_rfl)) ?_
      refine Rg.pure (d := 46) (op := .load 23 (.tmp 45)) (g := some (9, true)) (v := .int .u32 n.mode) (by kernel_rfl) (by kernel_rfl) (pv_load_blk 0 rfl rfl (by kernel_rfl) rfl) ?_
      refine Rg.pure (d := 47) (op := .binOp .or 23 (.tmp 44) (.tmp 46) 23) (g := some (9, true)) (v := .int .u32 (bitsI .or .u32 n.gen n.mode)) (by kernel_rfl) (by kernel_rfl) (pv_bits rfl rfl rfl) ?_
      refine Rg.pure (d := 48) (op := .fieldAddr 44 (.tmp 1) 3) (g := some (9, true)) (v := .pointer (some ⟨b1, 0 + 3, none⟩)) (by kernel_rfl) (by kernel_rfl) (pv_fieldAddr rfl (n := 3) (by kernel_rfl)) ?_
      refine Rg.pure (d := 49) (op := .load 23 (.tmp 48)) (g := some (9, true)) (v := .int .u32 n.user) (by kernel_rfl) (by kernel_rfl) (pv_load_blk 0 rfl rfl (by kernel_rfl) rfl) ?_
      refine Rg.pure (d := 50) (op := .binOp .or 23 (.tmp 47) (.tmp 49) 23) (g := some (9, true)) (v := .int .u32 (bitsI .or .u32 (bitsI .or .u32 n.gen n.mode) n.user)) (by kernel_rfl) (by kernel_rfl) (pv_bits rfl rfl rfl) ?_
      refine Rg.pure (d := 51) (op := .fieldAddr 44 (.tmp 1) 4) (g := some (9, true)) (v := .pointer (some ⟨b1, 0 + 4, none⟩)) (by kernel_rfl) (by kernel_rfl) (pv_fieldAddr rfl (n := 4) (by kernel_rfl)) ?_
      refine Rg.pure (d := 52) (op := .load 23 (.tmp 51)) (g := some (9, true)) (v := .int .u32 n.group) (by kernel_rfl) (by kernel_rfl) (pv_load_blk 0 rfl rfl (by kernel_rfl) rfl) ?_
      refine Rg.pure (d := 53) (op := .binOp .or 23 (.tmp 50) (.tmp 52) 23) (g := some (9, true)) (v := .int .u32 (bitsI .or .u32 (bitsI .or .u32 (bitsI .or .u32 n.gen n.mode) n.user) n.group)) (by kernel_rfl) (by kernel_rfl) (pv_bits rfl rfl rfl) ?_
      refine Rg.pure (d := 54) (op := .binOp .eql 23 (.tmp 53) (.const (.int .u32 0)) 23) (g := some (9, true)) (v := .bool (decide ((bitsI .or .u32 (bitsI .or .u32 (bitsI .or .u32 n.gen n.mode) n.user) n.group) = 0))) (by kernel_rfl) (by kernel_rfl) (pv_eql rfl rfl) ?_
      refine Rg.pure (d := 55) (op := .pick (.tmp 42) (.tmp 54) (.const (.bool false))) (g := none) (v := .bool (decide ((bitsI .or .u32 (bitsI .or .u32 (bitsI .or .u32 n.gen n.mode) n.user) n.group) = 0))) (by kernel_rfl) (by kernel_rfl) (pv_pick_t rfl rfl) ?_
      refine Rg.fin rfl (At.mid [0, 1] (.cons (and_of_t h25 rfl) (.cons (rfl) (.cons (rfl) (.cons (rfl) (.nil _))))) rfl (by decide))
    ·
      refine Rg.skips 22 (by kernel_rfl) ?_
      refine Rg.pure (d := 55) (op := .pick (.tmp 42) (.tmp 54) (.const (.bool false))) (g := none) (v := .bool false) (by kernel_rfl) (by kernel_rfl) (pv_pick_f rfl rfl) ?_
      refine Rg.fin rfl (At.mid [0, 1] (.cons (and_of_f h25 rfl) (.cons (rfl) (.cons (rfl) (.cons (rfl) (.nil _))))) rfl (by decide))
    refine Rg.pure (d := 56) (op := .move (.tmp 55)) (g := none) (v := .bool (((((decide ((n.data.length : Int) = 0)) && (decide ([n.verf.a0, n.verf.a1, n.verf.a2, n.verf.a3, n.verf.a4, n.verf.a5, n.verf.a6, n.verf.a7] = [0, 0, 0, 0, 0, 0, 0, 0]))) && (decide (n.target = ⟨#[]⟩))) && (((decide ((n.list.length : Int) = 0)) && (decide (n.parent = 0))) && (decide (n.next = 0)))) && (decide ((bitsI .or .u32 (bitsI .or .u32 (bitsI .or .u32 n.gen n.mode) n.user) n.group) = 0)))) (by kernel_rfl) (by kernel_rfl) (pv_move rfl) ?_
    refine Rg.split 28 [(60, .bool ((((((decide ((n.data.length : Int) = 0)) && (decide ([n.verf.a0, n.verf.a1, n.verf.a2, n.verf.a3, n.verf.a4, n.verf.a5, n.verf.a6, n.verf.a7] = [0, 0, 0, 0, 0, 0, 0, 0]))) && (decide (n.target = ⟨#[]⟩))) && (((decide ((n.list.length : Int) = 0)) && (decide (n.parent = 0))) && (decide (n.next = 0)))) && (decide ((bitsI .or .u32 (bitsI .or .u32 (bitsI .or .u32 n.gen n.mode) n.user) n.group) = 0))) && (decide (n.links = 0)))), (1, .pointer (some ⟨b1, 0, none⟩)), (2, .bool false), (3, .bool ((decide ((n.data.length : Int) = 0)) && (decide ([n.verf.a0, n.verf.a1, n.verf.a2, n.verf.a3, n.verf.a4, n.verf.a5, n.verf.a6, n.verf.a7] = [0, 0, 0, 0, 0, 0, 0, 0]))))] [blk b1 (.cells n.cells 44 (0, 0)), base w (Low w)] (s := 56) (g := ((((decide ((n.data.length : Int) = 0)) && (decide ([n.verf.a0, n.verf.a1, n.verf.a2, n.verf.a3, n.verf.a4, n.verf.a5, n.verf.a6, n.verf.a7] = [0, 0, 0, 0, 0, 0, 0, 0]))) && (decide (n.target = ⟨#[]⟩))) && (((decide ((n.list.length : Int) = 0)) && (decide (n.parent = 0))) && (decide (n.next = 0)))) && (decide ((bitsI .or .u32 (bitsI .or .u32 (bitsI .or .u32 n.gen n.mode) n.user) n.group) = 0))) rfl (by decide) (fun h42 => ?_) (fun h42 => ?_) ?_
    ·
      have ⟨h43, h44⟩ := and_t h42
      have ⟨h45, h46⟩ := and_t h43
      have ⟨h47, h48⟩ := and_t h45
      have ⟨h49, h50⟩ := and_t h47
      have h51 := of_decide_eq_true h49
      have h52 := of_decide_eq_true h50
      have h53 := of_decide_eq_true h48
      have ⟨h54, h55⟩ := and_t h46
      have ⟨h56, h57⟩ := and_t h54
      have h58 := of_decide_eq_true h56
      have h59 := of_decide_eq_true h57
      have h60 := of_decide_eq_true h55
      have h61 := of_decide_eq_true h44
      refine Rg.pure (d := 57) (op := .fieldAddr 44 (.tmp 1) 5) (g := some (23, true)) (v := .pointer (some ⟨b1, 0 + 5, none⟩)) (by kernel_rfl) (by kernel_rfl) (pv_fieldAddr rfl (n := 5) (by kernel_rfl)) ?_
      refine Rg.pure (d := 58) (op := .load 3 (.tmp 57)) (g := some (23, true)) (v := .int .i64 n.links) (by kernel_rfl) (by kernel_rfl) (pv_load_blk 0 rfl rfl (by kernel_rfl) rfl) ?_
      refine Rg.pure (d := 59) (op := .binOp .eql 3 (.tmp 58) (.const (.int .i64 0)) 3) (g := some (23, true)) (v := .bool (decide (n.links = 0))) (by kernel_rfl) (by kernel_rfl) (pv_eql rfl rfl) ?_
      refine Rg.pure (d := 60) (op := .pick (.tmp 56) (.tmp 59) (.const (.bool false))) (g := none) (v := .bool (decide (n.links = 0))) (by kernel_rfl) (by kernel_rfl) (pv_pick_t rfl rfl) ?_
      refine Rg.fin rfl (At.mid [0, 1] (.cons (and_of_t h42 rfl) (.cons (rfl) (.cons (rfl) (.cons (rfl) (.nil _))))) rfl (by decide))
    ·
      refine Rg.skips 27 (by kernel_rfl) ?_
      refine Rg.pure (d := 60) (op := .pick (.tmp 56) (.tmp 59) (.const (.bool false))) (g := none) (v := .bool false) (by kernel_rfl) (by kernel_rfl) (pv_pick_f rfl rfl) ?_
      refine Rg.fin rfl (At.mid [0, 1] (.cons (and_of_f h42 rfl) (.cons (rfl) (.cons (rfl) (.cons (rfl) (.nil _))))) rfl (by decide))
    refine Rg.pure (d := 61) (op := .move (.tmp 60)) (g := none) (v := .bool ((((((decide ((n.data.length : Int) = 0)) && (decide ([n.verf.a0, n.verf.a1, n.verf.a2, n.verf.a3, n.verf.a4, n.verf.a5, n.verf.a6, n.verf.a7] = [0, 0, 0, 0, 0, 0, 0, 0]))) && (decide (n.target = ⟨#[]⟩))) && (((decide ((n.list.length : Int) = 0)) && (decide (n.parent = 0))) && (decide (n.next = 0)))) && (decide ((bitsI .or .u32 (bitsI .or .u32 (bitsI .or .u32 n.gen n.mode) n.user) n.group) = 0))) && (decide (n.links = 0)))) (by kernel_rfl) (by kernel_rfl) (pv_move rfl) ?_
    refine Rg.split 34 [(66, .bool (((((((decide ((n.data.length : Int) = 0)) && (decide ([n.verf.a0, n.verf.a1, n.verf.a2, n.verf.a3, n.verf.a4, n.verf.a5, n.verf.a6, n.verf.a7] = [0, 0, 0, 0, 0, 0, 0, 0]))) && (decide (n.target = ⟨#[]⟩))) && (((decide ((n.list.length : Int) = 0)) && (decide (n.parent = 0))) && (decide (n.next = 0)))) && (decide ((bitsI .or .u32 (bitsI .or .u32 (bitsI .or .u32 n.gen n.mode) n.user) n.group) = 0))) && (decide (n.links = 0))) && (decide (n.rs = 0) && (decide (n.rn = 0) && true)))), (1, .pointer (some ⟨b1, 0, none⟩)), (2, .bool false), (3, .bool ((decide ((n.data.length : Int) = 0)) && (decide ([n.verf.a0, n.verf.a1, n.verf.a2, n.verf.a3, n.verf.a4, n.verf.a5, n.verf.a6, n.verf.a7] = [0, 0, 0, 0, 0, 0, 0, 0]))))] [blk b1 (.cells n.cells 44 (0, 0)), base w (Low w)] (s := 61) (g := (((((decide ((n.data.length : Int) = 0)) && (decide ([n.verf.a0, n.verf.a1, n.verf.a2, n.verf.a3, n.verf.a4, n.verf.a5, n.verf.a6, n.verf.a7] = [0, 0, 0, 0, 0, 0, 0, 0]))) && (decide (n.target = ⟨#[]⟩))) && (((decide ((n.list.length : Int) = 0)) && (decide (n.parent = 0))) && (decide (n.next = 0)))) && (decide ((bitsI .or .u32 (bitsI .or .u32 (bitsI .or .u32 n.gen n.mode) n.user) n.group) = 0))) && (decide (n.links = 0))) rfl (by decide) (fun h62 => ?_) (fun h62 => ?_) ?_
    ·
      have ⟨h63, h64⟩ := and_t h62
      have ⟨h65, h66⟩ := and_t h63
      have ⟨h67, h68⟩ := and_t h65
      have ⟨h69, h70⟩ := and_t h67
      have ⟨h71, h72⟩ := and_t h69
      have h73 := of_decide_eq_true h71
      have h74 := of_decide_eq_true h72
      have h75 := of_decide_eq_true h70
      have ⟨h76, h77⟩ := and_t h68
      have ⟨h78, h79⟩ := and_t h76
      have h80 := of_decide_eq_true h78
      have h81 := of_decide_eq_true h79
      have h82 := of_decide_eq_true h77
      have h83 := of_decide_eq_true h66
      have h84 := of_decide_eq_true h64
      refine Rg.pure (d := 62) (op := .fieldAddr 44 (.tmp 1) 6) (g := some (28, true)) (v := .pointer (some ⟨b1, 0 + 6, none⟩)) (by kernel_rfl) (by kernel_rfl) (pv_fieldAddr rfl (n := 6) (by kernel_rfl)) ?_
      refine Rg.pure (d := 63) (op := .load 36 (.tmp 62)) (g := some (28, true)) (v := .agg #[.int .u32 n.rs, .int .u32 n.rn]) (by kernel_rfl) (by kernel_rfl) (pv_load_blk_agg 0 rfl rfl (vs := #[.int .u32 n.rs, .int .u32 n.rn]) (by kernel_rfl) (by kernel_rfl) (agg_rfl (by kernel_rfl))) ?_
      refine Rg.pure (d := 64) (op := .build 36 #[]) (g := some (28, true)) (v := .agg #[.int .u32 0, .int .u32 0]) (by kernel_rfl) (by kernel_rfl) (pv_build (parts := []) (vs := []) (fs := [(0, 1), (1, 1)]) (zv := .agg #[.int .u32 0, .int .u32 0]) (cs := #[.int .u32 0, .int .u32 0]) rfl (by kernel_rfl) (by kernel_rfl) (by kernel_rfl)) ?_
      refine Rg.pure (d := 65) (op := .binOp .eql 36 (.tmp 63) (.tmp 64) 36) (g := some (28, true)) (v := .bool (decide (n.rs = 0) && (decide (n.rn = 0) && true))) (by kernel_rfl) (by kernel_rfl) (pv_eql_struct (b := (decide (n.rs = 0) && (decide (n.rn = 0) && true))) rfl rfl (by kernel_rfl) (by kernel_rfl) (by kernel_rfl) (by kernel_rfl)) ?_
      refine Rg.pure (d := 66) (op := .pick (.tmp 61) (.tmp 65) (.const (.bool false))) (g := none) (v := .bool (decide (n.rs = 0) && (decide (n.rn = 0) && true))) (by kernel_rfl) (by kernel_rfl) (pv_pick_t rfl rfl) ?_
      refine Rg.fin rfl (At.mid [0, 1] (.cons (and_of_t h62 rfl) (.cons (rfl) (.cons (rfl) (.cons (rfl) (.nil _))))) rfl (by decide))
    ·
      refine Rg.skips 33 (by kernel_rfl) ?_
      refine Rg.pure (d := 66) (op := .pick (.tmp 61) (.tmp 65) (.const (.bool false))) (g := none) (v := .bool false) (by kernel_rfl) (by kernel_rfl) (pv_pick_f rfl rfl) ?_
      refine Rg.fin rfl (At.mid [0, 1] (.cons (and_of_f h62 rfl) (.cons (rfl) (.cons (rfl) (.cons (rfl) (.nil _))))) rfl (by decide))
    refine Rg.pure (d := 67) (op := .move (.tmp 66)) (g := none) (v := .bool (((((((decide ((n.data.length : Int) = 0)) && (decide ([n.verf.a0, n.verf.a1, n.verf.a2, n.verf.a3, n.verf.a4, n.verf.a5, n.verf.a6, n.verf.a7] = [0, 0, 0, 0, 0, 0, 0, 0]))) && (decide (n.target = ⟨#[]⟩))) && (((decide ((n.list.length : Int) = 0)) && (decide (n.parent = 0))) && (decide (n.next = 0)))) && (decide ((bitsI .or .u32 (bitsI .or .u32 (bitsI .or .u32 n.gen n.mode) n.user) n.group) = 0))) && (decide (n.links = 0))) && (decide (n.rs = 0) && (decide (n.rn = 0) && true)))) (by kernel_rfl) (by kernel_rfl) (pv_move rfl) ?_
    refine Rg.split 40 [(72, .bool ((((((((decide ((n.data.length : Int) = 0)) && (decide ([n.verf.a0, n.verf.a1, n.verf.a2, n.verf.a3, n.verf.a4, n.verf.a5, n.verf.a6, n.verf.a7] = [0, 0, 0, 0, 0, 0, 0, 0]))) && (decide (n.target = ⟨#[]⟩))) && (((decide ((n.list.length : Int) = 0)) && (decide (n.parent = 0))) && (decide (n.next = 0)))) && (decide ((bitsI .or .u32 (bitsI .or .u32 (bitsI .or .u32 n.gen n.mode) n.user) n.group) = 0))) && (decide (n.links = 0))) && (decide (n.rs = 0) && (decide (n.rn = 0) && true))) && (decide (n.ws = 0) && (decide (n.wn = 0) && true)))), (1, .pointer (some ⟨b1, 0, none⟩)), (2, .bool false), (3, .bool ((decide ((n.data.length : Int) = 0)) && (decide ([n.verf.a0, n.verf.a1, n.verf.a2, n.verf.a3, n.verf.a4, n.verf.a5, n.verf.a6, n.verf.a7] = [0, 0, 0, 0, 0, 0, 0, 0]))))] [blk b1 (.cells n.cells 44 (0, 0)), base w (Low w)] (s := 67) (g := ((((((decide ((n.data.length : Int) = 0)) && (decide ([n.verf.a0, n.verf.a1, n.verf.a2, n.verf.a3, n.verf.a4, n.verf.a5, n.verf.a6, n.verf.a7] = [0, 0, 0, 0, 0, 0, 0, 0]))) && (decide (n.target = ⟨#[]⟩))) && (((decide ((n.list.length : Int) = 0)) && (decide (n.parent = 0))) && (decide (n.next = 0)))) && (decide ((bitsI .or .u32 (bitsI .or .u32 (bitsI .or .u32 n.gen n.mode) n.user) n.group) = 0))) && (decide (n.links = 0))) && (decide (n.rs = 0) && (decide (n.rn = 0) && true))) rfl (by decide) (fun h85 => ?_) (fun h85 => ?_) ?_
    ·
      have ⟨h86, h87⟩ := and_t h85
      have ⟨h88, h89⟩ := and_t h86
      have ⟨h90, h91⟩ := and_t h88
      have ⟨h92, h93⟩ := and_t h90
      have ⟨h94, h95⟩ := and_t h92
      have ⟨h96, h97⟩ := and_t h94
      have h98 := of_decide_eq_true h96
      have h99 := of_decide_eq_true h97
      have h100 := of_decide_eq_true h95
      have ⟨h101, h102⟩ := and_t h93
      have ⟨h103, h104⟩ := and_t h101
      have h105 := of_decide_eq_true h103
      have h106 := of_decide_eq_true h104
      have h107 := of_decide_eq_true h102
      have h108 := of_decide_eq_true h91
      have h109 := of_decide_eq_true h89
      refine Rg.pure (d := 68) (op := .fieldAddr 44 (.tmp 1) 7) (g := some (34, true)) (v := .pointer (some ⟨b1, 0 + 8, none⟩)) (by kernel_rfl) (by kernel_rfl) (pv_fieldAddr rfl (n := 8) (by kernel_rfl)) ?_
      refine Rg.pure (d := 69) (op := .load 36 (.tmp 68)) (g := some (34, true)) (v := .agg #[.int .u32 n.ws, .int .u32 n.wn]) (by kernel_rfl) (by kernel_rfl) (pv_load_blk_agg 0 rfl rfl (vs := #[.int .u32 n.ws, .int .u32 n.wn]) (by kernel_rfl) (by kernel_rfl) (agg_rfl (by kernel_rfl))) ?_
      refine Rg.pure (d := 70) (op := .build 36 #[]) (g := some (34, true)) (v := .agg #[.int .u32 0, .int .u32 0]) (by kernel_rfl) (by kernel_rfl) (pv_build (parts := []) (vs := []) (fs := [(0, 1), (1, 1)]) (zv := .agg #[.int .u32 0, .int .u32 0]) (cs := #[.int .u32 0, .int .u32 0]) rfl (by kernel_rfl) (by kernel_rfl) (by kernel_rfl)) ?_
      refine Rg.pure (d := 71) (op := .binOp .eql 36 (.tmp 69) (.tmp 70) 36) (g := some (34, true)) (v := .bool (decide (n.ws = 0) && (decide (n.wn = 0) && true))) (by kernel_rfl) (by kernel_rfl) (pv_eql_struct (b := (decide (n.ws = 0) && (decide (n.wn = 0) && true))) rfl rfl (by kernel_rfl) (by kernel_rfl) (by kernel_rfl) (by kernel_rfl)) ?_
      refine Rg.pure (d := 72) (op := .pick (.tmp 67) (.tmp 71) (.const (.bool false))) (g := none) (v := .bool (decide (n.ws = 0) && (decide (n.wn = 0) && true))) (by kernel_rfl) (by kernel_rfl) (pv_pick_t rfl rfl) ?_
      refine Rg.fin rfl (At.mid [0, 1] (.cons (and_of_t h85 rfl) (.cons (rfl) (.cons (rfl) (.cons (rfl) (.nil _))))) rfl (by decide))
    ·
      refine Rg.skips 39 (by kernel_rfl) ?_
      refine Rg.pure (d := 72) (op := .pick (.tmp 67) (.tmp 71) (.const (.bool false))) (g := none) (v := .bool false) (by kernel_rfl) (by kernel_rfl) (pv_pick_f rfl rfl) ?_
      refine Rg.fin rfl (At.mid [0, 1] (.cons (and_of_f h85 rfl) (.cons (rfl) (.cons (rfl) (.cons (rfl) (.nil _))))) rfl (by decide))
    refine Rg.pure (d := 73) (op := .move (.tmp 72)) (g := none) (v := .bool ((((((((decide ((n.data.length : Int) = 0)) && (decide ([n.verf.a0, n.verf.a1, n.verf.a2, n.verf.a3, n.verf.a4, n.verf.a5, n.verf.a6, n.verf.a7] = [0, 0, 0, 0, 0, 0, 0, 0]))) && (decide (n.target = ⟨#[]⟩))) && (((decide ((n.list.length : Int) = 0)) && (decide (n.parent = 0))) && (decide (n.next = 0)))) && (decide ((bitsI .or .u32 (bitsI .or .u32 (bitsI .or .u32 n.gen n.mode) n.user) n.group) = 0))) && (decide (n.links = 0))) && (decide (n.rs = 0) && (decide (n.rn = 0) && true))) && (decide (n.ws = 0) && (decide (n.wn = 0) && true)))) (by kernel_rfl) (by kernel_rfl) (pv_move rfl) ?_
    refine Rg.split 46 [(78, .bool (((((((((decide ((n.data.length : Int) = 0)) && (decide ([n.verf.a0, n.verf.a1, n.verf.a2, n.verf.a3, n.verf.a4, n.verf.a5, n.verf.a6, n.verf.a7] = [0, 0, 0, 0, 0, 0, 0, 0]))) && (decide (n.target = ⟨#[]⟩))) && (((decide ((n.list.length : Int) = 0)) && (decide (n.parent = 0))) && (decide (n.next = 0)))) && (decide ((bitsI .or .u32 (bitsI .or .u32 (bitsI .or .u32 n.gen n.mode) n.user) n.group) = 0))) && (decide (n.links = 0))) && (decide (n.rs = 0) && (decide (n.rn = 0) && true))) && (decide (n.ws = 0) && (decide (n.wn = 0) && true))) && (decide (n.ts = 0) && (decide (n.tn = 0) && true)))), (1, .pointer (some ⟨b1, 0, none⟩)), (2, .bool false), (3, .bool ((decide ((n.data.length : Int) = 0)) && (decide ([n.verf.a0, n.verf.a1, n.verf.a2, n.verf.a3, n.verf.a4, n.verf.a5, n.verf.a6, n.verf.a7] = [0, 0, 0, 0, 0, 0, 0, 0]))))] [blk b1 (.cells n.cells 44 (0, 0)), base w (Low w)] (s := 73) (g := (((((((decide ((n.data.length : Int) = 0)) && (decide ([n.verf.a0, n.verf.a1, n.verf.a2, n.verf.a3, n.verf.a4, n.verf.a5, n.verf.a6, n.verf.a7] = [0, 0, 0, 0, 0, 0, 0, 0]))) && (decide (n.target = ⟨#[]⟩))) && (((decide ((n.list.length : Int) = 0)) && (decide (n.parent = 0))) && (decide (n.next = 0)))) && (decide ((bitsI .or .u32 (bitsI .or .u32 (bitsI .or .u32 n.gen n.mode) n.user) n.group) = 0))) && (decide (n.links = 0))) && (decide (n.rs = 0) && (decide (n.rn = 0) && true))) && (decide (n.ws = 0) && (decide (n.wn = 0) && true))) rfl (by decide) (fun h110 => ?_) (fun h110 => ?_) ?_
    ·
      have ⟨h111, h112⟩ := and_t h110
      have ⟨h113, h114⟩ := and_t h111
      have ⟨h115, h116⟩ := and_t h113
      have ⟨h117, h118⟩ := and_t h115
      have ⟨h119, h120⟩ := and_t h117
      have ⟨h121, h122⟩ := and_t h119
      have ⟨h123, h124⟩ := and_t h121
      have h125 := of_decide_eq_true h123
      have h126 := of_decide_eq_true h124
      have h127 := of_decide_eq_true h122
      have ⟨h128, h129⟩ := and_t h120
      have ⟨h130, h131⟩ := and_t h128
      have h132 := of_decide_eq_true h130
      have h133 := of_decide_eq_true h131
      have h134 := of_decide_eq_true h129
      have h135 := of_decide_eq_true h118
      have h136 := of_decide_eq_true h116
      refine Rg.pure (d := 74) (op := .fieldAddr 44 (.tmp 1) 8) (g := some (40, true)) (v := .pointer (some ⟨b1, 0 + 10, none⟩)) (by kernel_rfl) (by kernel_rfl) (pv_fieldAddr rfl (n := 10) (by kernel_rfl)) ?_
      refine Rg.pure (d := 75) (op := .load 36 (.tmp 74)) (g := some (40, true)) (v := .agg #[.int .u32 n.ts, .int .u32 n.tn]) (by kernel_rfl) (by kernel_rfl) (pv_load_blk_agg 0 rfl rfl (vs := #[.int .u32 n.ts, .int .u32 n.tn]) (by kernel_rfl) (by kernel_rfl) (agg_rfl (by kernel_rfl))) ?_
      refine Rg.pure (d := 76) (op := .build 36 #[]) (g := some (40, true)) (v := .agg #[.int .u32 0, .int .u32 0]) (by kernel_rfl) (by kernel_rfl) (pv_build (parts := []) (vs := []) (fs := [(0, 1), (1, 1)]) (zv := .agg #[.int .u32 0, .int .u32 0]) (cs := #[.int .u32 0, .int .u32 0]) rfl (by kernel_rfl) (by kernel_rfl) (by kernel_rfl)) ?_
      refine Rg.pure (d := 77) (op := .binOp .eql 36 (.tmp 75) (.tmp 76) 36) (g := some (40, true)) (v := .bool (decide (n.ts = 0) && (decide (n.tn = 0) && true))) (by kernel_rfl) (by kernel_rfl) (pv_eql_struct (b := (decide (n.ts = 0) && (decide (n.tn = 0) && true))) rfl rfl (by kernel_rfl) (by kernel_rfl) (by kernel_rfl) (by kernel_rfl)) ?_
      refine Rg.pure (d := 78) (op := .pick (.tmp 73) (.tmp 77) (.const (.bool false))) (g := none) (v := .bool (decide (n.ts = 0) && (decide (n.tn = 0) && true))) (by kernel_rfl) (by kernel_rfl) (pv_pick_t rfl rfl) ?_
      refine Rg.fin rfl (At.mid [0, 1] (.cons (and_of_t h110 rfl) (.cons (rfl) (.cons (rfl) (.cons (rfl) (.nil _))))) rfl (by decide))
    ·
      refine Rg.skips 45 (by kernel_rfl) ?_
      refine Rg.pure (d := 78) (op := .pick (.tmp 73) (.tmp 77) (.const (.bool false))) (g := none) (v := .bool false) (by kernel_rfl) (by kernel_rfl) (pv_pick_f rfl rfl) ?_
      refine Rg.fin rfl (At.mid [0, 1] (.cons (and_of_f h110 rfl) (.cons (rfl) (.cons (rfl) (.cons (rfl) (.nil _))))) rfl (by decide))
    refine Rg.pure (d := 2) (op := .assign (.tmp 78)) (g := none) (v := .bool (((((((((decide ((n.data.length : Int) = 0)) && (decide ([n.verf.a0, n.verf.a1, n.verf.a2, n.verf.a3, n.verf.a4, n.verf.a5, n.verf.a6, n.verf.a7] = [0, 0, 0, 0, 0, 0, 0, 0]))) && (decide (n.target = ⟨#[]⟩))) && (((decide ((n.list.length : Int) = 0)) && (decide (n.parent = 0))) && (decide (n.next = 0)))) && (decide ((bitsI .or .u32 (bitsI .or .u32 (bitsI .or .u32 n.gen n.mode) n.user) n.group) = 0))) && (decide (n.links = 0))) && (decide (n.rs = 0) && (decide (n.rn = 0) && true))) && (decide (n.ws = 0) && (decide (n.wn = 0) && true))) && (decide (n.ts = 0) && (decide (n.tn = 0) && true)))) (by kernel_rfl) (by kernel_rfl) (pv_assign rfl) ?_
    refine Rg.fin rfl ?_
    refine at_codeS [0, 1] [(1, _), (2, _), (3, _)] [blk b1 (.cells n.cells 44 (0, 0)), base w (Low w)] (.cons rfl (.cons rfl (.cons rfl (.nil _)))) rfl (by decide) (fun _ _ h => h) ?_
    refine ev_ret (by kernel_rfl) ?_
    refine At.via (Q := Q) hQ ?_
    refine At.ret1 rfl rfl rfl ?_
    exact fun w hw => ⟨(by unfold onlyS; rw [h10]; rfl), hw.base_below 1 rfl⟩
  ·
    have h137 := of_decide_eq_false h10
    refine ev_seq (by kernel_rfl) ?_
    refine ev_region (n := 2) (by kernel_rfl) ?_
    refine Rg.pure (d := 80) (op := .binOp .eql 33 (.tmp 30) (.const (.int .u32 1)) 33) (g := none) (v := .bool (decide (n.kind = 1))) (by kernel_rfl) (by kernel_rfl) (pv_eql rfl rfl) ?_
    refine Rg.pure (d := 79) (op := .assign (.tmp 80)) (g := none) (v := .bool (decide (n.kind = 1))) (by kernel_rfl) (by kernel_rfl) (pv_assign rfl) ?_
    refine Rg.fin rfl ?_
    refine at_codeS [0, 1] [(1, _), (2, _), (3, _), (4, _), (30, _), (79, _)] [blk b1 (.cells n.cells 44 (0, 0)), base w (Low w)] (.cons rfl (.cons rfl (.cons rfl (.cons rfl (.cons rfl (.cons rfl (.nil _))))))) rfl (by decide) (fun _ _ h => h) ?_
    refine ev_cond (t := 79) (by kernel_rfl) rfl (fun h138 => ?_) (fun h138 => ?_)
    ·
      have h139 := of_decide_eq_true h138
      refine ev_seq (by kernel_rfl) ?_
      refine ev_region (n := 13) (by kernel_rfl) ?_
      refine Rg.pure (d := 81) (op := .fieldAddr 44 (.tmp 1) 11) (g := none) (v := .pointer (some ⟨b1, 0 + 21, none⟩)) (by kernel_rfl) (by kernel_rfl) (pv_fieldAddr rfl (n := 21) (by kernel_rfl)) ?_
      refine Rg.pure (d := 82) (op := .load 9 (.tmp 81)) (g := none) (v := .string n.target) (by kernel_rfl) (by kernel_rfl) (pv_load_blk 0 rfl rfl (by kernel_rfl) rfl) ?_
      refine Rg.pure (d := 83) (op := .binOp .eql 9 (.tmp 82) (.const (.string ⟨#[]⟩)) 9) (g := none) (v := .bool (decide (n.target = ⟨#[]⟩))) (by kernel_rfl) (by kernel_rfl) (pv_eql_str rfl rfl) ?_
      refine Rg.pure (d := 84) (op := .move (.tmp 83)) (g := none) (v := .bool (decide (n.target = ⟨#[]⟩))) (by kernel_rfl) (by kernel_rfl) (pv_move rfl) ?_
      refine Rg.split 6 [(86, .bool ((decide (n.target = ⟨#[]⟩)) && (((decide ((n.list.length : Int) = 0)) && (decide (n.parent = 0))) && (decide (n.next = 0))))), (1, .pointer (some ⟨b1, 0, none⟩)), (2, .bool false), (3, .bool ((decide ((n.data.length : Int) = 0)) && (decide ([n.verf.a0, n.verf.a1, n.verf.a2, n.verf.a3, n.verf.a4, n.verf.a5, n.verf.a6, n.verf.a7] = [0, 0, 0, 0, 0, 0, 0, 0]))))] [blk b1 (.cells n.cells 44 (0, 0)), base w (Low w)] (s := 84) (g := decide (n.target = ⟨#[]⟩)) rfl (by decide) (fun h140 => ?_) (fun h140 => ?_) ?_
      ·
        have h141 := of_decide_eq_true h140
        refine Rg.pure (d := 85) (op := .move (.tmp 4)) (g := some (3, true)) (v := .bool (((decide ((n.list.length : Int) = 0)) && (decide (n.parent = 0))) && (decide (n.next = 0)))) (by kernel_rfl) (by kernel_rfl) (pv_move rfl) ?_
        refine Rg.pure (d := 86) (op := .pick (.tmp 84) (.tmp 85) (.const (.bool false))) (g := none) (v := .bool (((decide ((n.list.length : Int) = 0)) && (decide (n.parent = 0))) && (decide (n.next = 0)))) (by kernel_rfl) (by kernel_rfl) (pv_pick_t rfl rfl) ?_
        refine Rg.fin rfl (At.mid [0, 1] (.cons (and_of_t h140 rfl) (.cons (rfl) (.cons (rfl) (.cons (rfl) (.nil _))))) rfl (by decide))
      ·
        refine Rg.skips 5 (by kernel_rfl) ?_
        refine Rg.pure (d := 86) (op := .pick (.tmp 84) (.tmp 85) (.const (.bool false))) (g := none) (v := .bool false) (by kernel_rfl) (by kernel_rfl) (pv_pick_f rfl rfl) ?_
        refine Rg.fin rfl (At.mid [0, 1] (.cons (and_of_f h140 rfl) (.cons (rfl) (.cons (rfl) (.cons (rfl) (.nil _))))) rfl (by decide))
      refine Rg.pure (d := 87) (op := .move (.tmp 86)) (g := none) (v := .bool ((decide (n.target = ⟨#[]⟩)) && (((decide ((n.list.length : Int) = 0)) && (decide (n.parent = 0))) && (decide (n.next = 0))))) (by kernel_rfl) (by kernel_rfl) (pv_move rfl) ?_
      refine Rg.split 12 [(92, .bool (((decide (n.target = ⟨#[]⟩)) && (((decide ((n.list.length : Int) = 0)) && (decide (n.parent = 0))) && (decide (n.next = 0)))) && (decide ((n.data.length : Int) ≤ 65536)))), (1, .pointer (some ⟨b1, 0, none⟩)), (2, .bool false), (3, .bool ((decide ((n.data.length : Int) = 0)) && (decide ([n.verf.a0, n.verf.a1, n.verf.a2, n.verf.a3, n.verf.a4, n.verf.a5, n.verf.a6, n.verf.a7] = [0, 0, 0, 0, 0, 0, 0, 0]))))] [blk b1 (.cells n.cells 44 (0, 0)), base w (Low w)] (s := 87) (g := (decide (n.target = ⟨#[]⟩)) && (((decide ((n.list.length : Int) = 0)) && (decide (n.parent = 0))) && (decide (n.next = 0)))) rfl (by decide) (fun h142 => ?_) (fun h142 => ?_) ?_
      ·
        have ⟨h143, h144⟩ := and_t h142
        have h145 := of_decide_eq_true h143
        have ⟨h146, h147⟩ := and_t h144
        have ⟨h148, h149⟩ := and_t h146
        have h150 := of_decide_eq_true h148
        have h151 := of_decide_eq_true h149
        have h152 := of_decide_eq_true h147
        refine Rg.pure (d := 88) (op := .fieldAddr 44 (.tmp 1) 9) (g := some (6, true)) (v := .pointer (some ⟨b1, 0 + 12, none⟩)) (by kernel_rfl) (by kernel_rfl) (pv_fieldAddr rfl (n := 12) (by kernel_rfl)) ?_
        refine Rg.pure (d := 89) (op := .load 29 (.tmp 88)) (g := some (6, true)) (v := .slice n.dA n.data.length n.dCap) (by kernel_rfl) (by kernel_rfl) (pv_load_blk 0 rfl rfl (by kernel_rfl) rfl) ?_
        refine Rg.pure (d := 90) (op := .call { callee := .builtin .len, args := #[.tmp 89], argTypes := #[29] }) (g := some (6, true)) (v := .int .i64 (n.data.length : Int)) (by kernel_rfl) (by kernel_rfl) (pv_len_slice rfl (by kernel_rfl)) ?_
        refine Rg.pure (d := 91) (op := .binOp .leq 3 (.tmp 90) (.const (.int .i64 65536)) 3) (g := some (6, true)) (v := .bool (decide ((n.data.length : Int) ≤ 65536))) (by kernel_rfl) (by kernel_rfl) (pv_leq rfl rfl) ?_
        refine Rg.pure (d := 92) (op := .pick (.tmp 87) (.tmp 91) (.const (.bool false))) (g := none) (v := .bool (decide ((n.data.length : Int) ≤ 65536))) (by kernel_rfl) (by kernel_rfl) (pv_pick_t rfl rfl) ?_
        refine Rg.fin rfl (At.mid [0, 1] (.cons (and_of_t h142 rfl) (.cons (rfl) (.cons (rfl) (.cons (rfl) (.nil _))))) rfl (by decide))
      ·
        refine Rg.skips 11 (by kernel_rfl) ?_
        refine Rg.pure (d := 92) (op := .pick (.tmp 87) (.tmp 91) (.const (.bool false))) (g := none) (v := .bool false) (by kernel_rfl) (by kernel_rfl) (pv_pick_f rfl rfl) ?_
        refine Rg.fin rfl (At.mid [0, 1] (.cons (and_of_f h142 rfl) (.cons (rfl) (.cons (rfl) (.cons (rfl) (.nil _))))) rfl (by decide))
      refine Rg.pure (d := 2) (op := .assign (.tmp 92)) (g := none) (v := .bool (((decide (n.target = ⟨#[]⟩)) && (((decide ((n.list.length : Int) = 0)) && (decide (n.parent = 0))) && (decide (n.next = 0)))) && (decide ((n.data.length : Int) ≤ 65536)))) (by kernel_rfl) (by kernel_rfl) (pv_assign rfl) ?_
      refine Rg.fin rfl ?_
      refine at_codeS [0, 1] [(1, _), (2, _), (3, _)] [blk b1 (.cells n.cells 44 (0, 0)), base w (Low w)] (.cons rfl (.cons rfl (.cons rfl (.nil _)))) rfl (by decide) (fun _ _ h => h) ?_
      refine ev_ret (by kernel_rfl) ?_
      refine At.via (Q := Q) hQ ?_
      refine At.ret1 rfl rfl rfl ?_
      exact fun w hw => ⟨(by unfold onlyS; rw [h10, h138]; rfl), hw.base_below 1 rfl⟩
    ·
      have h153 := of_decide_eq_false h138
      refine ev_seq (by kernel_rfl) ?_
      refine ev_region (n := 2) (by kernel_rfl) ?_
      refine Rg.pure (d := 94) (op := .binOp .eql 33 (.tmp 30) (.const (.int .u32 5)) 33) (g := none) (v := .bool (decide (n.kind = 5))) (by kernel_rfl) (by kernel_rfl) (pv_eql rfl rfl) ?_
      refine Rg.pure (d := 93) (op := .assign (.tmp 94)) (g := none) (v := .bool (decide (n.kind = 5))) (by kernel_rfl) (by kernel_rfl) (pv_assign rfl) ?_
      refine Rg.fin rfl ?_
      refine at_codeS [0, 1] [(1, _), (2, _), (3, _), (4, _), (93, _)] [blk b1 (.cells n.cells 44 (0, 0)), base w (Low w)] (.cons rfl (.cons rfl (.cons rfl (.cons rfl (.cons rfl (.nil _)))))) rfl (by decide) (fun _ _ h => h) ?_
      refine ev_cond (t := 93) (by kernel_rfl) rfl (fun h154 => ?_) (fun h154 => ?_)
      ·
        have h155 := of_decide_eq_true h154
        refine ev_seq (by kernel_rfl) ?_
        refine ev_region (n := 11) (by kernel_rfl) ?_
        refine Rg.pure (d := 95) (op := .move (.tmp 3)) (g := none) (v := .bool ((decide ((n.data.length : Int) = 0)) && (decide ([n.verf.a0, n.verf.a1, n.verf.a2, n.verf.a3, n.verf.a4, n.verf.a5, n.verf.a6, n.verf.a7] = [0, 0, 0, 0, 0, 0, 0, 0])))) (by kernel_rfl) (by kernel_rfl) (pv_move rfl) ?_
        refine Rg.pure (d := 96) (op := .move (.tmp 95)) (g := none) (v := .bool ((decide ((n.data.length : Int) = 0)) && (decide ([n.verf.a0, n.verf.a1, n.verf.a2, n.verf.a3, n.verf.a4, n.verf.a5, n.verf.a6, n.verf.a7] = [0, 0, 0, 0, 0, 0, 0, 0])))) (by kernel_rfl) (by kernel_rfl) (pv_move rfl) ?_
        refine Rg.split 4 [(98, .bool (((decide ((n.data.length : Int) = 0)) && (decide ([n.verf.a0, n.verf.a1, n.verf.a2, n.verf.a3, n.verf.a4, n.verf.a5, n.verf.a6, n.verf.a7] = [0, 0, 0, 0, 0, 0, 0, 0]))) && (((decide ((n.list.length : Int) = 0)) && (decide (n.parent = 0))) && (decide (n.next = 0))))), (1, .pointer (some ⟨b1, 0, none⟩)), (2, .bool false), (3, .bool ((decide ((n.data.length : Int) = 0)) && (decide ([n.verf.a0, n.verf.a1, n.verf.a2, n.verf.a3, n.verf.a4, n.verf.a5, n.verf.a6, n.verf.a7] = [0, 0, 0, 0, 0, 0, 0, 0]))))] [blk b1 (.cells n.cells 44 (0, 0)), base w (Low w)] (s := 96) (g := (decide ((n.data.length : Int) = 0)) && (decide ([n.verf.a0, n.verf.a1, n.verf.a2, n.verf.a3, n.verf.a4, n.verf.a5, n.verf.a6, n.verf.a7] = [0, 0, 0, 0, 0, 0, 0, 0]))) rfl (by decide) (fun h156 => ?_) (fun h156 => ?_) ?_
        ·
          have ⟨h157, h158⟩ := and_t h156
          have h159 := of_decide_eq_true h157
          have h160 := of_decide_eq_true h158
          refine Rg.pure (d := 97) (op := .move (.tmp 4)) (g := some (1, true)) (v := .bool (((decide ((n.list.length : Int) = 0)) && (decide (n.parent = 0))) && (decide (n.next = 0)))) (by kernel_rfl) (by kernel_rfl) (pv_move rfl) ?_
          refine Rg.pure (d := 98) (op := .pick (.tmp 96) (.tmp 97) (.const (.bool false))) (g := none) (v := .bool (((decide ((n.list.length : Int) = 0)) && (decide (n.parent = 0))) && (decide (n.next = 0)))) (by kernel_rfl) (by kernel_rfl) (pv_pick_t rfl rfl) ?_
          refine Rg.fin rfl (At.mid [0, 1] (.cons (and_of_t h156 rfl) (.cons (rfl) (.cons (rfl) (.cons (rfl) (.nil _))))) rfl (by decide))
        ·
          refine Rg.skips 3 (by kernel_rfl) ?_
          refine Rg.pure (d := 98) (op := .pick (.tmp 96) (.tmp 97) (.const (.bool false))) (g := none) (v := .bool false) (by kernel_rfl) (by kernel_rfl) (pv_pick_f rfl rfl) ?_
          refine Rg.fin rfl (At.mid [0, 1] (.cons (and_of_f h156 rfl) (.cons (rfl) (.cons (rfl) (.cons (rfl) (.nil _))))) rfl (by decide))
        refine Rg.pure (d := 99) (op := .move (.tmp 98)) (g := none) (v := .bool (((decide ((n.data.length : Int) = 0)) && (decide ([n.verf.a0, n.verf.a1, n.verf.a2, n.verf.a3, n.verf.a4, n.verf.a5, n.verf.a6, n.verf.a7] = [0, 0, 0, 0, 0, 0, 0, 0]))) && (((decide ((n.list.length : Int) = 0)) && (decide (n.parent = 0))) && (decide (n.next = 0))))) (by kernel_rfl) (by kernel_rfl) (pv_move rfl) ?_
        refine Rg.split 10 [(104, .bool ((((decide ((n.data.length : Int) = 0)) && (decide ([n.verf.a0, n.verf.a1, n.verf.a2, n.verf.a3, n.verf.a4, n.verf.a5, n.verf.a6, n.verf.a7] = [0, 0, 0, 0, 0, 0, 0, 0]))) && (((decide ((n.list.length : Int) = 0)) && (decide (n.parent = 0))) && (decide (n.next = 0)))) && (decide ((pathS n.target) = 0)))), (1, .pointer (some ⟨b1, 0, none⟩)), (2, .bool false), (3, .bool ((decide ((n.data.length : Int) = 0)) && (decide ([n.verf.a0, n.verf.a1, n.verf.a2, n.verf.a3, n.verf.a4, n.verf.a5, n.verf.a6, n.verf.a7] = [0, 0, 0, 0, 0, 0, 0, 0]))))] [blk b1 (.cells n.cells 44 (0, 0)), base w (Low w)] (s := 99) (g := ((decide ((n.data.length : Int) = 0)) && (decide ([n.verf.a0, n.verf.a1, n.verf.a2, n.verf.a3, n.verf.a4, n.verf.a5, n.verf.a6, n.verf.a7] = [0, 0, 0, 0, 0, 0, 0, 0]))) && (((decide ((n.list.length : Int) = 0)) && (decide (n.parent = 0))) && (decide (n.next = 0)))) rfl (by decide) (fun h161 => ?_) (fun h161 => ?_) ?_
        ·
          have ⟨h162, h163⟩ := and_t h161
          have ⟨h164, h165⟩ := and_t h162
          have h166 := of_decide_eq_true h164
          have h167 := of_decide_eq_true h165
          have ⟨h168, h169⟩ := and_t h163
          have ⟨h170, h171⟩ := and_t h168
          have h172 := of_decide_eq_true h170
          have h173 := of_decide_eq_true h171
          have h174 := of_decide_eq_true h169
          refine Rg.pure (d := 100) (op := .fieldAddr 44 (.tmp 1) 11) (g := some (4, true)) (v := .pointer (some ⟨b1, 0 + 21, none⟩)) (by kernel_rfl) (by kernel_rfl) (pv_fieldAddr rfl (n := 21) (by kernel_rfl)) ?_
          refine Rg.pure (d := 101) (op := .load 9 (.tmp 100)) (g := some (4, true)) (v := .string n.target) (by kernel_rfl) (by kernel_rfl) (pv_load_blk 0 rfl rfl (by kernel_rfl) rfl) ?_
          refine rg_call (d := some 102) (f := 111) (xs := #[.tmp 101]) (ts := #[9]) (g := some (4, true)) (v := .int .u32 (pathS n.target)) (by kernel_rfl) (by kernel_rfl) (by kernel_rfl) rfl (fun w hw => Path_calls (hW.target)) ?_
          refine Rg.pure (d := 103) (op := .binOp .eql 45 (.tmp 102) (.const (.int .u32 0)) 45) (g := some (4, true)) (v := .bool (decide ((pathS n.target) = 0))) (by kernel_rfl) (by kernel_rfl) (pv_eql rfl rfl) ?_
          refine Rg.pure (d := 104) (op := .pick (.tmp 99) (.tmp 103) (.const (.bool false))) (g := none) (v := .bool (decide ((pathS n.target) = 0))) (by kernel_rfl) (by kernel_rfl) (pv_pick_t rfl rfl) ?_
          refine Rg.fin rfl (At.mid [0, 1] (.cons (and_of_t h161 rfl) (.cons (rfl) (.cons (rfl) (.cons (rfl) (.nil _))))) rfl (by decide))
        ·
          refine Rg.skips 9 (by kernel_rfl) ?_
          refine Rg.pure (d := 104) (op := .pick (.tmp 99) (.tmp 103) (.const (.bool false))) (g := none) (v := .bool false) (by kernel_rfl) (by kernel_rfl) (pv_pick_f rfl rfl) ?_
          refine Rg.fin rfl (At.mid [0, 1] (.cons (and_of_f h161 rfl) (.cons (rfl) (.cons (rfl) (.cons (rfl) (.nil _))))) rfl (by decide))
        refine Rg.pure (d := 2) (op := .assign (.tmp 104)) (g := none) (v := .bool ((((decide ((n.data.length : Int) = 0)) && (decide ([n.verf.a0, n.verf.a1, n.verf.a2, n.verf.a3, n.verf.a4, n.verf.a5, n.verf.a6, n.verf.a7] = [0, 0, 0, 0, 0, 0, 0, 0]))) && (((decide ((n.list.length : Int) = 0)) && (decide (n.parent = 0))) && (decide (n.next = 0)))) && (decide ((pathS n.target) = 0)))) (by kernel_rfl) (by kernel_rfl) (pv_assign rfl) ?_
        refine Rg.fin rfl ?_
        refine at_codeS [0, 1] [(1, _), (2, _), (3, _)] [blk b1 (.cells n.cells 44 (0, 0)), base w (Low w)] (.cons rfl (.cons rfl (.cons rfl (.nil _)))) rfl (by decide) (fun _ _ h => h) ?_
        refine ev_ret (by kernel_rfl) ?_
        refine At.via (Q := Q) hQ ?_
        refine At.ret1 rfl rfl rfl ?_
        exact fun w hw => ⟨(by unfold onlyS; rw [h10, h138, h154]; rfl), hw.base_below 1 rfl⟩
      ·
        have h175 := of_decide_eq_false h154
        refine ev_skip (by kernel_rfl) ?_
        refine at_codeS [0, 1] [(1, _), (2, _), (3, _)] [blk b1 (.cells n.cells 44 (0, 0)), base w (Low w)] (.cons rfl (.cons rfl (.cons rfl (.nil _)))) rfl (by decide) (fun _ _ h => h) ?_
        refine ev_seq (by kernel_rfl) ?_
        refine ev_region (n := 12) (by kernel_rfl) ?_
        refine Rg.pure (d := 105) (op := .fieldAddr 44 (.tmp 1) 0) (g := none) (v := .pointer (some ⟨b1, 0 + 0, none⟩)) (by kernel_rfl) (by kernel_rfl) (pv_fieldAddr rfl (n := 0) (by kernel_rfl)) ?_
        refine Rg.pure (d := 106) (op := .load 33 (.tmp 105)) (g := none) (v := .int .u32 n.kind) (by kernel_rfl) (by kernel_rfl) (pv_load_blk 0 rfl rfl (by kernel_rfl) rfl) ?_
        refine Rg.pure (d := 107) (op := .binOp .eql 33 (.tmp 106) (.const (.int .u32 2)) 33) (g := none) (v := .bool (decide (n.kind = 2))) (by kernel_rfl) (by kernel_rfl) (pv_eql rfl rfl) ?_
        refine Rg.pure (d := 108) (op := .move (.tmp 107)) (g := none) (v := .bool (decide (n.kind = 2))) (by kernel_rfl) (by kernel_rfl) (pv_move rfl) ?_
        refine Rg.split 6 [(110, .bool ((decide (n.kind = 2)) && ((decide ((n.data.length : Int) = 0)) && (decide ([n.verf.a0, n.verf.a1, n.verf.a2, n.verf.a3, n.verf.a4, n.verf.a5, n.verf.a6, n.verf.a7] = [0, 0, 0, 0, 0, 0, 0, 0]))))), (1, .pointer (some ⟨b1, 0, none⟩)), (2, .bool false)] [blk b1 (.cells n.cells 44 (0, 0)), base w (Low w)] (s := 108) (g := decide (n.kind = 2)) rfl (by decide) (fun h176 => ?_) (fun h176 => ?_) ?_
        ·
          have h177 := of_decide_eq_true h176
          refine Rg.pure (d := 109) (op := .move (.tmp 3)) (g := some (3, true)) (v := .bool ((decide ((n.data.length : Int) = 0)) && (decide ([n.verf.a0, n.verf.a1, n.verf.a2, n.verf.a3, n.verf.a4, n.verf.a5, n.verf.a6, n.verf.a7] = [0, 0, 0, 0, 0, 0, 0, 0])))) (by kernel_rfl) (by kernel_rfl) (pv_move rfl) ?_
          refine Rg.pure (d := 110) (op := .pick (.tmp 108) (.tmp 109) (.const (.bool false))) (g := none) (v := .bool ((decide ((n.data.length : Int) = 0)) && (decide ([n.verf.a0, n.verf.a1, n.verf.a2, n.verf.a3, n.verf.a4, n.verf.a5, n.verf.a6, n.verf.a7] = [0, 0, 0, 0, 0, 0, 0, 0])))) (by kernel_rfl) (by kernel_rfl) (pv_pick_t rfl rfl) ?_
          refine Rg.fin rfl (At.mid [0, 1] (.cons (and_of_t h176 rfl) (.cons (rfl) (.cons (rfl) (.nil _)))) rfl (by decide))
        ·
          refine Rg.skips 5 (by kernel_rfl) ?_
          refine Rg.pure (d := 110) (op := .pick (.tmp 108) (.tmp 109) (.const (.bool false))) (g := none) (v := .bool false) (by kernel_rfl) (by kernel_rfl) (pv_pick_f rfl rfl) ?_
          refine Rg.fin rfl (At.mid [0, 1] (.cons (and_of_f h176 rfl) (.cons (rfl) (.cons (rfl) (.nil _)))) rfl (by decide))
        refine Rg.pure (d := 111) (op := .move (.tmp 110)) (g := none) (v := .bool ((decide (n.kind = 2)) && ((decide ((n.data.length : Int) = 0)) && (decide ([n.verf.a0, n.verf.a1, n.verf.a2, n.verf.a3, n.verf.a4, n.verf.a5, n.verf.a6, n.verf.a7] = [0, 0, 0, 0, 0, 0, 0, 0]))))) (by kernel_rfl) (by kernel_rfl) (pv_move rfl) ?_
        refine Rg.split 11 [(115, .bool (((decide (n.kind = 2)) && ((decide ((n.data.length : Int) = 0)) && (decide ([n.verf.a0, n.verf.a1, n.verf.a2, n.verf.a3, n.verf.a4, n.verf.a5, n.verf.a6, n.verf.a7] = [0, 0, 0, 0, 0, 0, 0, 0])))) && (decide (n.target = ⟨#[]⟩)))), (2, .bool false)] [blk b1 (.cells n.cells 44 (0, 0)), base w (Low w)] (s := 111) (g := (decide (n.kind = 2)) && ((decide ((n.data.length : Int) = 0)) && (decide ([n.verf.a0, n.verf.a1, n.verf.a2, n.verf.a3, n.verf.a4, n.verf.a5, n.verf.a6, n.verf.a7] = [0, 0, 0, 0, 0, 0, 0, 0])))) rfl (by decide) (fun h178 => ?_) (fun h178 => ?_) ?_
        ·
          have ⟨h179, h180⟩ := and_t h178
          have h181 := of_decide_eq_true h179
          have ⟨h182, h183⟩ := and_t h180
          have h184 := of_decide_eq_true h182
          have h185 := of_decide_eq_true h183
          refine Rg.pure (d := 112) (op := .fieldAddr 44 (.tmp 1) 11) (g := some (6, true)) (v := .pointer (some ⟨b1, 0 + 21, none⟩)) (by kernel_rfl) (by kernel_rfl) (pv_fieldAddr rfl (n := 21) (by kernel_rfl)) ?_
          refine Rg.pure (d := 113) (op := .load 9 (.tmp 112)) (g := some (6, true)) (v := .string n.target) (by kernel_rfl) (by kernel_rfl) (pv_load_blk 0 rfl rfl (by kernel_rfl) rfl) ?_
          refine Rg.pure (d := 114) (op := .binOp .eql 9 (.tmp 113) (.const (.string ⟨#[]⟩)) 9) (g := some (6, true)) (v := .bool (decide (n.target = ⟨#[]⟩))) (by kernel_rfl) (by kernel_rfl) (pv_eql_str rfl rfl) ?_
          refine Rg.pure (d := 115) (op := .pick (.tmp 111) (.tmp 114) (.const (.bool false))) (g := none) (v := .bool (decide (n.target = ⟨#[]⟩))) (by kernel_rfl) (by kernel_rfl) (pv_pick_t rfl rfl) ?_
          refine Rg.fin rfl (At.mid [0, 1] (.cons (and_of_t h178 rfl) (.cons (rfl) (.nil _))) rfl (by decide))
        ·
          refine Rg.skips 10 (by kernel_rfl) ?_
          refine Rg.pure (d := 115) (op := .pick (.tmp 111) (.tmp 114) (.const (.bool false))) (g := none) (v := .bool false) (by kernel_rfl) (by kernel_rfl) (pv_pick_f rfl rfl) ?_
          refine Rg.fin rfl (At.mid [0, 1] (.cons (and_of_f h178 rfl) (.cons (rfl) (.nil _))) rfl (by decide))
        refine Rg.pure (d := 2) (op := .assign (.tmp 115)) (g := none) (v := .bool (((decide (n.kind = 2)) && ((decide ((n.data.length : Int) = 0)) && (decide ([n.verf.a0, n.verf.a1, n.verf.a2, n.verf.a3, n.verf.a4, n.verf.a5, n.verf.a6, n.verf.a7] = [0, 0, 0, 0, 0, 0, 0, 0])))) && (decide (n.target = ⟨#[]⟩)))) (by kernel_rfl) (by kernel_rfl) (pv_assign rfl) ?_
        refine Rg.fin rfl ?_
        refine at_codeS [0, 1] [(2, _)] [blk b1 (.cells n.cells 44 (0, 0)), base w (Low w)] (.cons rfl (.nil _)) rfl (by decide) (fun _ _ h => h) ?_
        refine ev_ret (by kernel_rfl) ?_
        refine At.via (Q := Q) hQ ?_
        refine At.ret1 rfl rfl rfl ?_
        exact fun w hw => ⟨(by unfold onlyS; rw [h10, h138, h154]; rfl), hw.base_below 1 rfl⟩

set_option maxHeartbeats 8000000 in
theorem check1_calls {n : Node} {w : World} (hW : NodeWf n) :
    Calls Try.prog 56 #[.agg n.cells] w (Ret w (.bool (!onlyS n))) := by
  refine calls_ofQ (args := [_]) [base w (Low w)] Try.func56 (by kernel_rfl) (by kernel_rfl) (Heap.start w) ?_
  intro Q hQ
  refine ev_seq (by kernel_rfl) ?_
  refine ev_region (n := 2) (by kernel_rfl) ?_
  refine rg_box (d := 1) (t := 44) (x := .tmp 0) (g := none) (by kernel_rfl) (by kernel_rfl) rfl ?_
  intro b1
  refine Rg.pure (d := 2) (op := .assign (.const (.bool false))) (g := none) (v := .bool false) (by kernel_rfl) (by kernel_rfl) (pv_assign rfl) ?_
  refine Rg.fin rfl ?_
  refine at_codeS [0, 1] [(1, _), (2, _)] [blk b1 (.cells n.cells 44 (0, 0)), base w (Low w)] (.cons rfl (.cons rfl (.nil _))) rfl (by decide) (fun _ _ h => h) ?_
  refine ev_seq (by kernel_rfl) ?_
  refine ev_region (n := 4) (by kernel_rfl) ?_
  refine Rg.pure (d := 3) (op := .load 44 (.tmp 1)) (g := none) (v := .agg n.cells) (by kernel_rfl) (by kernel_rfl) (pv_load_blk_whole 0 rfl rfl (by kernel_rfl) (by kernel_rfl)) ?_
  refine rg_call (d := some 4) (f := 57) (xs := #[.tmp 3]) (ts := #[44]) (g := none) (v := .bool (onlyS n)) (by kernel_rfl) (by kernel_rfl) (by kernel_rfl) rfl (fun w hw => only_calls (hW)) ?_
  refine Rg.pure (d := 5) (op := .unOp .not 4 (.tmp 4)) (g := none) (v := .bool (!(onlyS n))) (by kernel_rfl) (by kernel_rfl) (pv_not (b := onlyS n) rfl) ?_
  refine Rg.pure (d := 2) (op := .assign (.tmp 5)) (g := none) (v := .bool (!(onlyS n))) (by kernel_rfl) (by kernel_rfl) (pv_assign rfl) ?_
  refine Rg.fin rfl ?_
  refine at_codeS [0, 1] [(2, _)] [blk b1 (.cells n.cells 44 (0, 0)), base w (Low w)] (.cons rfl (.nil _)) rfl (by decide) (fun _ _ h => h) ?_
  refine ev_ret (by kernel_rfl) ?_
  refine At.via (Q := Q) hQ ?_
  refine At.ret1 rfl rfl rfl ?_
  exact fun w hw => ⟨rfl, hw.base_below 1 rfl⟩

noncomputable def anyBad (ns : List Node) : Bool := (List.range ns.length).any fun i => !onlyS (nd ns i)
theorem anyBad_t {ns : List Node} {i : Nat} (hi : i < ns.length) (h : (!onlyS (nd ns i)) = true) : anyBad ns = true := List.any_eq_true.2 ⟨i, List.mem_range.2 hi, h⟩
theorem anyBad_f {ns : List Node} (h : ∀ i, i < ns.length → (!onlyS (nd ns i)) = false) : anyBad ns = false := by
  rw [anyBad, List.any_eq_false]
  intro i hi
  rw [h i (List.mem_range.1 hi)]; simp

set_option maxHeartbeats 8000000 in
theorem indexFuncN_calls {p : Option Addr} {ns : List Node} {cap : Nat} {w : World} (hT : NodesAt (Low w) w p ns) (hW : NodesWf ns) :
    Calls Try.prog 110 #[.slice p ns.length cap, .func (.func 56) #[] #[]] w (RetN w (fun v : Int => (0 ≤ v ∧ anyBad ns = true) ∨ (v = -1 ∧ anyBad ns = false)) (fun v => .int .i64 v) (fun _ => [])) := by
  refine calls_ofQ (args := [_, _]) [base w (Low w)] Try.func110 (by kernel_rfl) (by kernel_rfl) (Heap.start w) ?_
  intro Q hQ
  have hlen := hW.len
  refine ev_seq (by kernel_rfl) ?_
  refine ev_region (n := 1) (by kernel_rfl) ?_
  refine Rg.pure (d := 4) (op := .assign (.const (.int .i64 0))) (g := none) (v := .int .i64 0) (by kernel_rfl) (by kernel_rfl) (pv_assign rfl) ?_
  refine Rg.fin rfl ?_
  refine at_codeS [0] [(0, _), (1, _), (4, _)] [base w (Low w)] (.cons rfl (.cons rfl (.cons rfl (.nil _)))) rfl (by decide) (fun _ _ h => h) ?_
  refine ev_seq (by kernel_rfl) ?_
  refine ev_seq (by kernel_rfl) ?_
  refine ev_region (n := 3) (by kernel_rfl) ?_
  refine Rg.pure (d := 6) (op := .move (.tmp 0)) (g := none) (v := .slice p ns.length cap) (by kernel_rfl) (by kernel_rfl) (pv_move rfl) ?_
  refine Rg.pure (d := 7) (op := .call { callee := .builtin .len, args := #[.tmp 6], argTypes := #[22] }) (g := none) (v := .int .i64 (ns.length : Int)) (by kernel_rfl) (by kernel_rfl) (pv_len_slice rfl (by kernel_rfl)) ?_
  refine Rg.pure (d := 8) (op := .move (.const (.int .i64 0))) (g := none) (v := .int .i64 0) (by kernel_rfl) (by kernel_rfl) (pv_move rfl) ?_
  refine Rg.fin rfl ?_
  refine at_codeS [0] [(0, _), (1, _), (4, _), (7, _), (8, _)] [base w (Low w)] (.cons rfl (.cons rfl (.cons rfl (.cons rfl (.cons rfl (.nil _)))))) rfl (by decide) (fun _ _ h => h) ?_
  refine ev_block (id := 0) (by kernel_rfl) ?_
  refine ev_loop (T := Nat) (fun k => [(0, .slice p ns.length cap), (1, .func (.func 56) #[] #[]), (4, .int .i64 0), (7, .int .i64 (ns.length : Int)), (8, .int .i64 (k : Int))]) (fun k => [base w (Low w)]) (fun k => k ≤ ns.length ∧ ∀ i_, i_ < k → (!onlyS (nd ns i_)) = false) (fun k => ns.length - k) 0 [0] (by kernel_rfl) ⟨Nat.zero_le _, fun i_ h_ => absurd h_ (Nat.not_lt_zero _)⟩ (.cons (rfl) (.cons (rfl) (.cons (rfl) (.cons (rfl) (.cons (rfl) (.nil _)))))) rfl (by decide) ?_
  rintro k ⟨(hk : k ≤ ns.length), (hno : ∀ i_, i_ < k → (!onlyS (nd ns i_)) = false)⟩
  show Ev _ _ [(0, .slice p ns.length cap), (1, .func (.func 56) #[] #[]), (4, .int .i64 0), (7, .int .i64 (ns.length : Int)), (8, .int .i64 (k : Int))] [base w (Low w)] _
  refine ev_seq (by kernel_rfl) ?_
  refine ev_region (n := 1) (by kernel_rfl) ?_
  refine Rg.pure (d := 9) (op := .binOp .lss 3 (.tmp 8) (.tmp 7) 3) (g := none) (v := .bool (decide ((k : Int) < (ns.length : Int)))) (by kernel_rfl) (by kernel_rfl) (pv_lss rfl rfl) ?_
  refine Rg.fin rfl ?_
  refine at_codeS [0] [(0, _), (1, _), (4, _), (7, _), (8, _), (9, _)] [base w (Low w)] (.cons rfl (.cons rfl (.cons rfl (.cons rfl (.cons rfl (.cons rfl (.nil _))))))) rfl (by decide) (fun _ _ h => h) ?_
  refine ev_seq (by kernel_rfl) ?_
  refine ev_cond (t := 9) (by kernel_rfl) rfl (fun h1 => ?_) (fun h1 => ?_)
  ·
    have h2 := of_decide_eq_true h1
    refine ev_skip (by kernel_rfl) ?_
    refine at_codeS [0] [(0, _), (1, _), (4, _), (7, _), (8, _), (9, _)] [base w (Low w)] (.cons rfl (.cons rfl (.cons rfl (.cons rfl (.cons rfl (.cons rfl (.nil _))))))) rfl (by decide) (fun _ _ h => h) ?_
    refine ev_seq (by kernel_rfl) ?_
    refine ev_block (id := 1) (by kernel_rfl) ?_
    refine ev_seq (by kernel_rfl) ?_
    refine ev_region (n := 2) (by kernel_rfl) ?_
    refine Rg.pure (d := 10) (op := .move (.tmp 8)) (g := none) (v := .int .i64 (k : Int)) (by kernel_rfl) (by kernel_rfl) (pv_move rfl) ?_
    refine Rg.pure (d := 5) (op := .assign (.tmp 10)) (g := none) (v := .int .i64 (k : Int)) (by kernel_rfl) (by kernel_rfl) (pv_assign rfl) ?_
    refine Rg.fin rfl ?_
    refine at_codeS [0] [(0, _), (1, _), (4, _), (5, _), (7, _), (8, _), (9, _), (10, _)] [base w (Low w)] (.cons rfl (.cons rfl (.cons rfl (.cons rfl (.cons rfl (.cons rfl (.cons rfl (.cons rfl (.nil _))))))))) rfl (by decide) (fun _ _ h => h) ?_
    refine ev_seq (by kernel_rfl) ?_
    refine ev_region (n := 6) (by kernel_rfl) ?_
    refine Rg.pure (d := 11) (op := .move (.tmp 1)) (g := none) (v := .func (.func 56) #[] #[]) (by kernel_rfl) (by kernel_rfl) (pv_move rfl) ?_
    refine Rg.pure (d := 12) (op := .move (.tmp 0)) (g := none) (v := .slice p ns.length cap) (by kernel_rfl) (by kernel_rfl) (pv_move rfl) ?_
    refine Rg.pure (d := 13) (op := .move (.tmp 5)) (g := none) (v := .int .i64 (k : Int)) (by kernel_rfl) (by kernel_rfl) (pv_move rfl) ?_
    have ⟨q1, o2, hp3⟩ := hT.rows.adr (by omega)
    refine Rg.pure (d := 14) (op := .indexAddr 22 (.tmp 12) (.tmp 13)) (g := none) (v := .pointer (some ⟨q1, o2 + ((k : Int)).toNat * 25, none⟩)) (by kernel_rfl) (by kernel_rfl) (pv_indexAddr' rfl hp3 rfl (e := 44) (sz := 25) (by kernel_rfl) (by omega) (by omega)) ?_
    refine Rg.pure (d := 15) (op := .load 44 (.tmp 14)) (g := none) (v := .agg ((nd ns k).cells)) (by kernel_rfl) (by kernel_rfl) (pv_load_node (i := ((k : Int)).toNat) (ns := ns) rfl hp3 (by omega) (by kernel_rfl) (by kernel_rfl) (fun w hw => ((hT).keep (hw.at_ 0 rfl) (fun k hk => hw.lt 0 rfl hk)))) ?_
    refine rg_callD (d := some 16) (f := 56) (fo := .tmp 11) (caps := #[]) (xs := #[.tmp 15]) (ts := #[44]) (g := none) (v := .bool (!(onlyS (nd ns k)))) (by kernel_rfl) (by kernel_rfl) rfl (by kernel_rfl) rfl (fun w hw => check1_calls (hW.node _)) ?_
    refine Rg.fin rfl ?_
    refine at_codeS [0] [(0, _), (1, _), (4, _), (5, _), (7, _), (8, _), (9, _), (10, _), (11, _), (12, _), (13, _), (14, _), (15, _), (16, _)] [base w (Low w)] (.cons rfl (.cons rfl (.cons rfl (.cons rfl (.cons rfl (.cons rfl (.cons rfl (.cons rfl (.cons rfl (.cons rfl (.cons rfl (.cons rfl (.cons rfl (.cons rfl (.nil _))))))))))))))) rfl (by decide) (fun _ _ h => h) ?_
    refine ev_cond (t := 16) (by kernel_rfl) rfl (fun h3 => ?_) (fun h3 => ?_)
    ·
      have h4 := not_t h3
      refine ev_seq (by kernel_rfl) ?_
      refine ev_region (n := 2) (by kernel_rfl) ?_
      refine Rg.pure (d := 17) (op := .move (.tmp 5)) (g := none) (v := .int .i64 (k : Int)) (by kernel_rfl) (by kernel_rfl) (pv_move rfl) ?_
      refine Rg.pure (d := 4) (op := .assign (.tmp 17)) (g := none) (v := .int .i64 (k : Int)) (by kernel_rfl) (by kernel_rfl) (pv_assign rfl) ?_
      refine Rg.fin rfl ?_
      refine at_codeS [0] [(0, _), (1, _), (4, _), (5, _), (7, _), (8, _), (9, _), (10, _), (11, _), (12, _), (13, _), (14, _), (15, _), (16, _), (17, _)] [base w (Low w)] (.cons rfl (.cons rfl (.cons rfl (.cons rfl (.cons rfl (.cons rfl (.cons rfl (.cons rfl (.cons rfl (.cons rfl (.cons rfl (.cons rfl (.cons rfl (.cons rfl (.cons rfl (.nil _)))))))))))))))) rfl (by decide) (fun _ _ h => h) ?_
      refine ev_ret (by kernel_rfl) ?_
      refine At.via (Q := Q) hQ ?_
      refine At.ret1 rfl rfl rfl ?_
      exact fun w hw => ⟨(k : Int), .inl ⟨(by omega), anyBad_t (by omega) h3⟩, rfl, hw.pick [0] (by decide)⟩
    ·
      have h5 := not_f h3
      refine ev_skip (by kernel_rfl) ?_
      refine at_codeS [0] [(0, _), (1, _), (4, _), (5, _), (7, _), (8, _), (9, _), (10, _), (11, _), (12, _), (13, _), (14, _), (15, _), (16, _)] [base w (Low w)] (.cons rfl (.cons rfl (.cons rfl (.cons rfl (.cons rfl (.cons rfl (.cons rfl (.cons rfl (.cons rfl (.cons rfl (.cons rfl (.cons rfl (.cons rfl (.cons rfl (.nil _))))))))))))))) rfl (by decide) (fun _ _ h => h) ?_
      refine ev_region (n := 2) (by kernel_rfl) ?_
      refine Rg.pure (d := 18) (op := .binOp .add 3 (.tmp 8) (.const (.int .i64 1)) 3) (g := none) (v := .int .i64 ((k : Int) + 1)) (by kernel_rfl) (by kernel_rfl) (pv_addb rfl rfl (in_i64 (by omega) (by omega))) ?_
      refine Rg.pure (d := 8) (op := .move (.tmp 18)) (g := none) (v := .int .i64 ((k : Int) + 1)) (by kernel_rfl) (by kernel_rfl) (pv_move rfl) ?_
      refine Rg.fin rfl ?_
      refine At.round (fun _ _ h => h) (k + 1) [0] ⟨(by omega), (fun i_ h_ => by rcases Nat.lt_succ_iff_lt_or_eq.1 h_ with h1_ | h1_; exact hno i_ h1_; subst h1_; exact h3)⟩ (by show ns.length - (k + 1) < ns.length - k; omega) (.cons (rfl) (.cons (rfl) (.cons (rfl) (.cons (rfl) (.cons (rfl) (.nil _)))))) rfl (by decide)
  ·
    have h6 := of_decide_eq_false h1
    refine ev_exit (id := 0) (by kernel_rfl) ?_
    refine at_codeS [0] [(4, _)] [base w (Low w)] (.cons rfl (.nil _)) rfl (by decide) (fun _ _ h => h) ?_
    refine ev_seq (by kernel_rfl) ?_
    refine ev_region (n := 1) (by kernel_rfl) ?_
    refine Rg.pure (d := 4) (op := .assign (.const (.int .i64 (-1)))) (g := none) (v := .int .i64 (-1)) (by kernel_rfl) (by kernel_rfl) (pv_assign rfl) ?_
    refine Rg.fin rfl ?_
    refine at_codeS [0] [(4, _)] [base w (Low w)] (.cons rfl (.nil _)) rfl (by decide) (fun _ _ h => h) ?_
    refine ev_ret (by kernel_rfl) ?_
    refine At.via (Q := Q) hQ ?_
    refine At.ret1 rfl rfl rfl ?_
    exact fun w hw => ⟨-1, .inr ⟨rfl, anyBad_f (fun i hi => hno i (by omega))⟩, rfl, hw.pick [0] (by decide)⟩

set_option maxHeartbeats 8000000 in
theorem containsFunc_calls {p : Option Addr} {ns : List Node} {cap : Nat} {w : World} (hT : NodesAt (Low w) w p ns) (hW : NodesWf ns) :
    Calls Try.prog 55 #[.slice p ns.length cap, .func (.func 56) #[] #[]] w (Ret w (.bool (anyBad ns))) := by
  refine calls_ofQ (args := [_, _]) [base w (Low w)] Try.func55 (by kernel_rfl) (by kernel_rfl) (Heap.start w) ?_
  intro Q hQ
  refine ev_seq (by kernel_rfl) ?_
  refine ev_region (n := 1) (by kernel_rfl) ?_
  refine Rg.pure (d := 4) (op := .assign (.const (.bool false))) (g := none) (v := .bool false) (by kernel_rfl) (by kernel_rfl) (pv_assign rfl) ?_
  refine Rg.fin rfl ?_
  refine at_codeS [0] [(0, _), (1, _), (4, _)] [base w (Low w)] (.cons rfl (.cons rfl (.cons rfl (.nil _)))) rfl (by decide) (fun _ _ h => h) ?_
  refine ev_seq (by kernel_rfl) ?_
  refine ev_region (n := 5) (by kernel_rfl) ?_
  refine Rg.pure (d := 5) (op := .move (.tmp 0)) (g := none) (v := .slice p ns.length cap) (by kernel_rfl) (by kernel_rfl) (pv_move rfl) ?_
  refine Rg.pure (d := 6) (op := .move (.tmp 1)) (g := none) (v := .func (.func 56) #[] #[]) (by kernel_rfl) (by kernel_rfl) (pv_move rfl) ?_
  refine rg_callN (T := Int) (d := some 7) (f := 110) (fo := .func 110) (caps := #[]) (xs := #[.tmp 5, .tmp 6]) (ts := #[22, 122]) (g := none) (v := fun v1 => .int .i64 v1) (L := fun v1 => []) (by kernel_rfl) (by kernel_rfl) rfl (by kernel_rfl) rfl (fun w hw => indexFuncN_calls ((hT).keep (hw.at_ 0 rfl) (fun k hk => hw.lt 0 rfl hk)) hW) ?_
  rintro v1 hv_v1
  dsimp only [putE, List.append, HAppend.hAppend, Append.append]
  refine Rg.pure (d := 8) (op := .binOp .geq 3 (.tmp 7) (.const (.int .i64 0)) 3) (g := none) (v := .bool (decide (0 ≤ v1))) (by kernel_rfl) (by kernel_rfl) (pv_geq rfl rfl) ?_
  refine Rg.pure (d := 4) (op := .assign (.tmp 8)) (g := none) (v := .bool (decide (0 ≤ v1))) (by kernel_rfl) (by kernel_rfl) (pv_assign rfl) ?_
  refine Rg.fin rfl ?_
  refine at_codeS [0] [(4, _)] [base w (Low w)] (.cons rfl (.nil _)) rfl (by decide) (fun _ _ h => h) ?_
  refine ev_ret (by kernel_rfl) ?_
  refine At.via (Q := Q) hQ ?_
  refine At.ret1 rfl rfl rfl ?_
  exact fun w hw => ⟨(by rcases hv_v1 with ⟨h1_, h2_⟩ | ⟨h1_, h2_⟩ <;> rw [h2_] <;> simp [h1_]), hw.base_below 0 rfl⟩

end Go.Proofs.Ytfhhggcdmgjbcaa.Sx
