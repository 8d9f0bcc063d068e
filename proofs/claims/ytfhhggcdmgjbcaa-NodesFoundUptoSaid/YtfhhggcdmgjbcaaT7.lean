/-
  A part of the walk of the seat: laws of a small proof system, and contracts of functions, each proved. Conditions: as each theorem says.
-/
import Derived.Test.YtfhhggcdmgjbcaaProg
import Derived.Test.YtfhhggcdmgjbcaaSxMore
import Derived.Test.YtfhhggcdmgjbcaaT6
namespace Go.Proofs.Ytfhhggcdmgjbcaa.Sx
open Go Go.RowKit Go.Proofs

def crcStep (x : Int) : Int := bitsI .xor .u32 (shrI .u32 x 1) (bitsI .and .u32 (negI .u32 (bitsI .and .u32 x 1)) 3988292384)
def crcN (x : Int) : Nat → Int
  | 0 => x
  | n + 1 => crcStep (crcN x n)

set_option maxHeartbeats 8000000 in
theorem sum1_calls {x : Int} {w : World} :
    Calls Try.prog 172 #[.int .u32 x] w (Ret w (.int .u32 (crcN x 8))) := by
  refine calls_ofQ (args := [_]) [base w (Low w)] Try.func172 (by kernel_rfl) (by kernel_rfl) (Heap.start w) ?_
  intro Q hQ
  refine ev_seq (by kernel_rfl) ?_
  refine ev_region (n := 1) (by kernel_rfl) ?_
  refine Rg.pure (d := 2) (op := .assign (.const (.int .u32 0))) (g := none) (v := .int .u32 0) (by kernel_rfl) (by kernel_rfl) (pv_assign rfl) ?_
  refine Rg.fin rfl ?_
  refine at_codeS [0] [(0, _), (2, _)] [base w (Low w)] (.cons rfl (.cons rfl (.nil _))) rfl (by decide) (fun _ _ h => h) ?_
  refine ev_seq (by kernel_rfl) ?_
  refine ev_seq (by kernel_rfl) ?_
  refine ev_region (n := 1) (by kernel_rfl) ?_
  refine Rg.pure (d := 3) (op := .move (.const (.int .i64 0))) (g := none) (v := .int .i64 0) (by kernel_rfl) (by kernel_rfl) (pv_move rfl) ?_
  refine Rg.fin rfl ?_
  refine at_codeS [0] [(0, _), (2, _), (3, _)] [base w (Low w)] (.cons rfl (.cons rfl (.cons rfl (.nil _)))) rfl (by decide) (fun _ _ h => h) ?_
  refine ev_block (id := 0) (by kernel_rfl) ?_
  refine ev_loop (T := Nat) (fun i => [(0, .int .u32 (crcN x i)), (3, .int .i64 (i : Int))]) (fun i => [base w (Low w)]) (fun i => i ≤ 8) (fun i => 8 - i) 0 [0] (by kernel_rfl) (by omega) (.cons (rfl) (.cons (rfl) (.nil _))) rfl (by decide) ?_
  rintro i (hi : i ≤ 8)
  show Ev _ _ [(0, .int .u32 (crcN x i)), (3, .int .i64 (i : Int))] [base w (Low w)] _
  refine ev_seq (by kernel_rfl) ?_
  refine ev_region (n := 1) (by kernel_rfl) ?_
  refine Rg.pure (d := 4) (op := .binOp .lss 3 (.tmp 3) (.const (.int .i64 8)) 3) (g := none) (v := .bool (decide ((i : Int) < 8))) (by kernel_rfl) (by kernel_rfl) (pv_lss rfl rfl) ?_
  refine Rg.fin rfl ?_
  refine at_codeS [0] [(0, _), (3, _), (4, _)] [base w (Low w)] (.cons rfl (.cons rfl (.cons rfl (.nil _)))) rfl (by decide) (fun _ _ h => h) ?_
  refine ev_seq (by kernel_rfl) ?_
  refine ev_cond (t := 4) (by kernel_rfl) rfl (fun h1 => ?_) (fun h1 => ?_)
  ·
    have h2 := of_decide_eq_true h1
    refine ev_skip (by kernel_rfl) ?_
    refine at_codeS [0] [(0, _), (3, _), (4, _)] [base w (Low w)] (.cons rfl (.cons rfl (.cons rfl (.nil _)))) rfl (by decide) (fun _ _ h => h) ?_
    refine ev_seq (by kernel_rfl) ?_
    refine ev_block (id := 1) (by kernel_rfl) ?_
    refine ev_region (n := 8) (by kernel_rfl) ?_
    refine Rg.pure (d := 5) (op := .move (.tmp 0)) (g := none) (v := .int .u32 (crcN x i)) (by kernel_rfl) (by kernel_rfl) (pv_move rfl) ?_
    refine Rg.pure (d := 6) (op := .binOp .shr 23 (.tmp 5) (.const (.int .u64 1)) 205) (g := none) (v := .int .u32 (shrI .u32 (crcN x i) 1)) (by kernel_rfl) (by kernel_rfl) (pv_shr rfl rfl (by omega)) ?_
    refine Rg.pure (d := 7) (op := .move (.tmp 0)) (g := none) (v := .int .u32 (crcN x i)) (by kernel_rfl) (by kernel_rfl) (pv_move rfl) ?_
    refine Rg.pure (d := 8) (op := .binOp .and 23 (.tmp 7) (.const (.int .u32 1)) 23) (g := none) (v := .int .u32 (bitsI .and .u32 (crcN x i) 1)) (by kernel_rfl) (by kernel_rfl) (pv_bits rfl rfl rfl) ?_
    refine Rg.pure (d := 9) (op := .unOp .neg 23 (.tmp 8)) (g := none) (v := .int .u32 (negI .u32 (bitsI .and .u32 (crcN x i) 1))) (by kernel_rfl) (by kernel_rfl) (pv_neg rfl) ?_
    refine Rg.pure (d := 10) (op := .binOp .and 23 (.tmp 9) (.const (.int .u32 3988292384)) 23) (g := none) (v := .int .u32 (bitsI .and .u32 (negI .u32 (bitsI .and .u32 (crcN x i) 1)) 3988292384)) (by kernel_rfl) (by kernel_rfl) (pv_bits rfl rfl rfl) ?_
    refine Rg.pure (d := 11) (op := .binOp .xor 23 (.tmp 6) (.tmp 10) 23) (g := none) (v := .int .u32 (bitsI .xor .u32 (shrI .u32 (crcN x i) 1) (bitsI .and .u32 (negI .u32 (bitsI .and .u32 (crcN x i) 1)) 3988292384))) (by kernel_rfl) (by kernel_rfl) (pv_bits rfl rfl rfl) ?_
    refine Rg.pure (d := 0) (op := .assign (.tmp 11)) (g := none) (v := .int .u32 (bitsI .xor .u32 (shrI .u32 (crcN x i) 1) (bitsI .and .u32 (negI .u32 (bitsI .and .u32 (crcN x i) 1)) 3988292384))) (by kernel_rfl) (by kernel_rfl) (pv_assign rfl) ?_
    refine Rg.fin rfl ?_
    refine at_codeS [0] [(0, _), (3, _), (4, _), (5, _), (6, _), (7, _), (8, _), (9, _), (10, _), (11, _)] [base w (Low w)] (.cons rfl (.cons rfl (.cons rfl (.cons rfl (.cons rfl (.cons rfl (.cons rfl (.cons rfl (.cons rfl (.cons rfl (.nil _))))))))))) rfl (by decide) (fun _ _ h => h) ?_
    refine ev_region (n := 2) (by kernel_rfl) ?_
    refine Rg.pure (d := 12) (op := .binOp .add 3 (.tmp 3) (.const (.int .i64 1)) 3) (g := none) (v := .int .i64 ((i : Int) + 1)) (by kernel_rfl) (by kernel_rfl) (pv_addb rfl rfl (in_i64 (by omega) (by omega))) ?_
    refine Rg.pure (d := 3) (op := .move (.tmp 12)) (g := none) (v := .int .i64 ((i : Int) + 1)) (by kernel_rfl) (by kernel_rfl) (pv_move rfl) ?_
    refine Rg.fin rfl ?_
    refine At.round (fun _ _ h => h) (i + 1) [0] (by omega) (by show 8 - (i + 1) < 8 - i; omega) (.cons (rfl) (.cons (rfl) (.nil _))) rfl (by decide)
  ·
    have h3 := of_decide_eq_false h1
    refine ev_exit (id := 0) (by kernel_rfl) ?_
    refine at_codeS [0] [(0, _)] [base w (Low w)] (.cons rfl (.nil _)) rfl (by decide) (fun _ _ h => h) ?_
    refine ev_seq (by kernel_rfl) ?_
    refine ev_region (n := 2) (by kernel_rfl) ?_
    refine Rg.pure (d := 13) (op := .move (.tmp 0)) (g := none) (v := .int .u32 (crcN x i)) (by kernel_rfl) (by kernel_rfl) (pv_move rfl) ?_
    refine Rg.pure (d := 2) (op := .assign (.tmp 13)) (g := none) (v := .int .u32 (crcN x i)) (by kernel_rfl) (by kernel_rfl) (pv_assign rfl) ?_
    refine Rg.fin rfl ?_
    refine at_codeS [0] [(2, _)] [base w (Low w)] (.cons rfl (.nil _)) rfl (by decide) (fun _ _ h => h) ?_
    refine ev_ret (by kernel_rfl) ?_
    refine At.via (Q := Q) hQ ?_
    refine At.ret1 rfl rfl rfl ?_
    exact fun w hw => ⟨by have h : i = 8 := (by omega); subst h; rfl, hw.base_below 0 rfl⟩

def sumTo (xs : List Int) : Nat → Int
  | 0 => 4294967295
  | n + 1 => crcN (bitsI .xor .u32 (sumTo xs n) (IntKind.u32.wrap (xs.getD n 0))) 8
def sumS (xs : List Int) : Int := invI .u32 (sumTo xs xs.length)

set_option maxHeartbeats 8000000 in
theorem sum_calls {p : Option Addr} {xs : List Int} {cap : Nat} {w : World} (hB : BytesAt (Low w) w p xs) (hl : xs.length ≤ 4294967296) :
    Calls Try.prog 151 #[.slice p xs.length cap] w (Ret w (.int .u32 (sumS xs))) := by
  refine calls_ofQ (args := [_]) [base w (Low w)] Try.func151 (by kernel_rfl) (by kernel_rfl) (Heap.start w) ?_
  intro Q hQ
  refine ev_seq (by kernel_rfl) ?_
  refine ev_region (n := 1) (by kernel_rfl) ?_
  refine Rg.pure (d := 2) (op := .assign (.const (.int .u32 0))) (g := none) (v := .int .u32 0) (by kernel_rfl) (by kernel_rfl) (pv_assign rfl) ?_
  refine Rg.fin rfl ?_
  refine at_codeS [0] [(0, _), (2, _)] [base w (Low w)] (.cons rfl (.cons rfl (.nil _))) rfl (by decide) (fun _ _ h => h) ?_
  refine ev_seq (by kernel_rfl) ?_
  refine ev_region (n := 1) (by kernel_rfl) ?_
  refine Rg.pure (d := 3) (op := .assign (.func 172)) (g := none) (v := .func (.func 172) #[] #[]) (by kernel_rfl) (by kernel_rfl) (pv_assign rfl) ?_
  refine Rg.fin rfl ?_
  refine at_codeS [0] [(0, _), (2, _), (3, _)] [base w (Low w)] (.cons rfl (.cons rfl (.cons rfl (.nil _)))) rfl (by decide) (fun _ _ h => h) ?_
  refine ev_seq (by kernel_rfl) ?_
  refine ev_region (n := 1) (by kernel_rfl) ?_
  refine Rg.pure (d := 4) (op := .assign (.const (.int .u32 4294967295))) (g := none) (v := .int .u32 4294967295) (by kernel_rfl) (by kernel_rfl) (pv_assign rfl) ?_
  refine Rg.fin rfl ?_
  refine at_codeS [0] [(0, _), (2, _), (3, _), (4, _)] [base w (Low w)] (.cons rfl (.cons rfl (.cons rfl (.cons rfl (.nil _))))) rfl (by decide) (fun _ _ h => h) ?_
  refine ev_seq (by kernel_rfl) ?_
  refine ev_seq (by kernel_rfl) ?_
  refine ev_region (n := 3) (by kernel_rfl) ?_
  refine Rg.pure (d := 7) (op := .move (.tmp 0)) (g := none) (v := .slice p xs.length cap) (by kernel_rfl) (by kernel_rfl) (pv_move rfl) ?_
  refine Rg.pure (d := 8) (op := .call { callee := .builtin .len, args := #[.tmp 7], argTypes := #[29] }) (g := none) (v := .int .i64 (xs.length : Int)) (by kernel_rfl) (by kernel_rfl) (pv_len_slice rfl (by kernel_rfl)) ?_
  refine Rg.pure (d := 9) (op := .move (.const (.int .i64 0))) (g := none) (v := .int .i64 0) (by kernel_rfl) (by kernel_rfl) (pv_move rfl) ?_
  refine Rg.fin rfl ?_
  refine at_codeS [0] [(2, _), (3, _), (4, _), (7, _), (8, _), (9, _)] [base w (Low w)] (.cons rfl (.cons rfl (.cons rfl (.cons rfl (.cons rfl (.cons rfl (.nil _))))))) rfl (by decide) (fun _ _ h => h) ?_
  refine ev_block (id := 0) (by kernel_rfl) ?_
  refine ev_loop (T := Nat) (fun i => [(3, .func (.func 172) #[] #[]), (4, .int .u32 (sumTo xs i)), (7, .slice p xs.length cap), (8, .int .i64 (xs.length : Int)), (9, .int .i64 (i : Int))]) (fun i => [base w (Low w)]) (fun i => i ≤ xs.length) (fun i => xs.length - i) 0 [0] (by kernel_rfl) (by omega) (.cons (rfl) (.cons (rfl) (.cons (rfl) (.cons (rfl) (.cons (rfl) (.nil _)))))) rfl (by decide) ?_
  rintro i (hi : i ≤ xs.length)
  show Ev _ _ [(3, .func (.func 172) #[] #[]), (4, .int .u32 (sumTo xs i)), (7, .slice p xs.length cap), (8, .int .i64 (xs.length : Int)), (9, .int .i64 (i : Int))] [base w (Low w)] _
  refine ev_seq (by kernel_rfl) ?_
  refine ev_region (n := 1) (by kernel_rfl) ?_
  refine Rg.pure (d := 10) (op := .binOp .lss 3 (.tmp 9) (.tmp 8) 3) (g := none) (v := .bool (decide ((i : Int) < (xs.length : Int)))) (by kernel_rfl) (by kernel_rfl) (pv_lss rfl rfl) ?_
  refine Rg.fin rfl ?_
  refine at_codeS [0] [(3, _), (4, _), (7, _), (8, _), (9, _), (10, _)] [base w (Low w)] (.cons rfl (.cons rfl (.cons rfl (.cons rfl (.cons rfl (.cons rfl (.nil _))))))) rfl (by decide) (fun _ _ h => h) ?_
  refine ev_seq (by kernel_rfl) ?_
  refine ev_cond (t := 10) (by kernel_rfl) rfl (fun h1 => ?_) (fun h1 => ?_)
  ·
    have h2 := of_decide_eq_true h1
    refine ev_skip (by kernel_rfl) ?_
    refine at_codeS [0] [(3, _), (4, _), (7, _), (8, _), (9, _), (10, _)] [base w (Low w)] (.cons rfl (.cons rfl (.cons rfl (.cons rfl (.cons rfl (.cons rfl (.nil _))))))) rfl (by decide) (fun _ _ h => h) ?_
    refine ev_seq (by kernel_rfl) ?_
    refine ev_block (id := 1) (by kernel_rfl) ?_
    refine ev_seq (by kernel_rfl) ?_
    refine ev_region (n := 3) (by kernel_rfl) ?_
    have ⟨q1, o2, hp3⟩ := hB.adr (by omega)
    refine Rg.pure (d := 11) (op := .indexAddr 29 (.tmp 7) (.tmp 9)) (g := none) (v := .pointer (some ⟨q1, o2 + ((i : Int)).toNat * 1, none⟩)) (by kernel_rfl) (by kernel_rfl) (pv_indexAddr' rfl hp3 rfl (e := 5) (sz := 1) (by kernel_rfl) (by omega) (by omega)) ?_
    refine Rg.pure (d := 12) (op := .load 5 (.tmp 11)) (g := none) (v := .int .u8 ((xs).getD i 0)) (by kernel_rfl) (by kernel_rfl) (pv_load rfl (by kernel_rfl) (fun w hw => ((hB).keep (hw.at_ 0 rfl) (fun _ h => h)).cell _ _ hp3 _ (by omega) 0 (by decide))) ?_
    refine Rg.pure (d := 6) (op := .assign (.tmp 12)) (g := none) (v := .int .u8 ((xs).getD i 0)) (by kernel_rfl) (by kernel_rfl) (pv_assign rfl) ?_
    refine Rg.fin rfl ?_
    refine at_codeS [0] [(3, _), (4, _), (6, _), (7, _), (8, _), (9, _), (10, _), (11, _), (12, _)] [base w (Low w)] (.cons rfl (.cons rfl (.cons rfl (.cons rfl (.cons rfl (.cons rfl (.cons rfl (.cons rfl (.cons rfl (.nil _)))))))))) rfl (by decide) (fun _ _ h => h) ?_
    refine ev_region (n := 7) (by kernel_rfl) ?_
    refine Rg.pure (d := 13) (op := .move (.tmp 3)) (g := none) (v := .func (.func 172) #[] #[]) (by kernel_rfl) (by kernel_rfl) (pv_move rfl) ?_
    refine Rg.pure (d := 14) (op := .move (.tmp 4)) (g := none) (v := .int .u32 (sumTo xs i)) (by kernel_rfl) (by kernel_rfl) (pv_move rfl) ?_
    refine Rg.pure (d := 15) (op := .move (.tmp 6)) (g := none) (v := .int .u8 ((xs).getD i 0)) (by kernel_rfl) (by kernel_rfl) (pv_move rfl) ?_
    refine Rg.pure (d := 16) (op := .convert 5 23 (.tmp 15)) (g := none) (v := .int .u32 (IntKind.u32.wrap ((xs).getD i 0))) (by kernel_rfl) (by kernel_rfl) (pv_convert (q' := .u32) rfl (by kernel_rfl) (by kernel_rfl)) ?_
    refine Rg.pure (d := 17) (op := .binOp .xor 23 (.tmp 14) (.tmp 16) 23) (g := none) (v := .int .u32 (bitsI .xor .u32 (sumTo xs i) (IntKind.u32.wrap ((xs).getD i 0)))) (by kernel_rfl) (by kernel_rfl) (pv_bits rfl rfl rfl) ?_
    refine rg_callD (d := some 18) (f := 172) (fo := .tmp 13) (caps := #[]) (xs := #[.tmp 17]) (ts := #[23]) (g := none) (v := .int .u32 (crcN (bitsI .xor .u32 (sumTo xs i) (IntKind.u32.wrap ((xs).getD i 0))) 8)) (by kernel_rfl) (by kernel_rfl) rfl (by kernel_rfl) rfl (fun w hw => sum1_calls) ?_
    refine Rg.pure (d := 4) (op := .assign (.tmp 18)) (g := none) (v := .int .u32 (crcN (bitsI .xor .u32 (sumTo xs i) (IntKind.u32.wrap ((xs).getD i 0))) 8)) (by kernel_rfl) (by kernel_rfl) (pv_assign rfl) ?_
    refine Rg.fin rfl ?_
    refine at_codeS [0] [(3, _), (4, _), (6, _), (7, _), (8, _), (9, _), (10, _), (11, _), (12, _), (13, _), (14, _), (15, _), (16, _), (17, _), (18, _)] [base w (Low w)] (.cons rfl (.cons rfl (.cons rfl (.cons rfl (.cons rfl (.cons rfl (.cons rfl (.cons rfl (.cons rfl (.cons rfl (.cons rfl (.cons rfl (.cons rfl (.cons rfl (.cons rfl (.nil _)))))))))))))))) rfl (by decide) (fun _ _ h => h) ?_
    refine ev_region (n := 2) (by kernel_rfl) ?_
    refine Rg.pure (d := 19) (op := .binOp .add 3 (.tmp 9) (.const (.int .i64 1)) 3) (g := none) (v := .int .i64 ((i : Int) + 1)) (by kernel_rfl) (by kernel_rfl) (pv_addb rfl rfl (in_i64 (by omega) (by omega))) ?_
    refine Rg.pure (d := 9) (op := .move (.tmp 19)) (g := none) (v := .int .i64 ((i : Int) + 1)) (by kernel_rfl) (by kernel_rfl) (pv_move rfl) ?_
    refine Rg.fin rfl ?_
    refine At.round (fun _ _ h => h) (i + 1) [0] (by omega) (by show xs.length - (i + 1) < xs.length - i; omega) (.cons (rfl) (.cons (rfl) (.cons (rfl) (.cons (rfl) (.cons (rfl) (.nil _)))))) rfl (by decide)
  ·
    have h3 := of_decide_eq_false h1
    refine ev_exit (id := 0) (by kernel_rfl) ?_
    refine at_codeS [0] [(4, _)] [base w (Low w)] (.cons rfl (.nil _)) rfl (by decide) (fun _ _ h => h) ?_
    refine ev_seq (by kernel_rfl) ?_
    refine ev_region (n := 3) (by kernel_rfl) ?_
    refine Rg.pure (d := 20) (op := .move (.tmp 4)) (g := none) (v := .int .u32 (sumTo xs i)) (by kernel_rfl) (by kernel_rfl) (pv_move rfl) ?_
    refine Rg.pure (d := 21) (op := .unOp .xor 23 (.tmp 20)) (g := none) (v := .int .u32 (invI .u32 (sumTo xs i))) (by kernel_rfl) (by kernel_rfl) (pv_inv rfl) ?_
    refine Rg.pure (d := 2) (op := .assign (.tmp 21)) (g := none) (v := .int .u32 (invI .u32 (sumTo xs i))) (by kernel_rfl) (by kernel_rfl) (pv_assign rfl) ?_
    refine Rg.fin rfl ?_
    refine at_codeS [0] [(2, _)] [base w (Low w)] (.cons rfl (.nil _)) rfl (by decide) (fun _ _ h => h) ?_
    refine ev_ret (by kernel_rfl) ?_
    refine At.via (Q := Q) hQ ?_
    refine At.ret1 rfl rfl rfl ?_
    exact fun w hw => ⟨by have h : i = xs.length := (by omega); subst h; rfl, hw.base_below 0 rfl⟩

def getTo (xs : List Int) : Nat → Int
  | 0 => 0
  | n + 1 => bitsI .or .u32 (shlI .u32 (getTo xs n) 8) (IntKind.u32.wrap (xs.getD n 0))
def getN (xs : List Int) : Int := if xs.length < 4 then 0 else getTo xs 4
def getE (xs : List Int) : Int := if xs.length < 4 then 4 else 0

set_option maxHeartbeats 8000000 in
theorem get_calls {p : Option Addr} {xs : List Int} {cap : Nat} {w : World} (hB : BytesAt (Low w) w p xs) (hl : xs.length ≤ 4294967296) (hc : xs.length ≤ cap) :
    Calls Try.prog 152 #[.slice p xs.length cap, .int .i64 4] w (Ret w (.tuple #[.int .u32 (getN xs), .int .i64 (getE xs)])) := by
  refine calls_ofQ (args := [_, _]) [base w (Low w)] Try.func152 (by kernel_rfl) (by kernel_rfl) (Heap.start w) ?_
  intro Q hQ
  refine ev_seq (by kernel_rfl) ?_
  refine ev_region (n := 2) (by kernel_rfl) ?_
  refine Rg.pure (d := 4) (op := .assign (.const (.int .u32 0))) (g := none) (v := .int .u32 0) (by kernel_rfl) (by kernel_rfl) (pv_assign rfl) ?_
  refine Rg.pure (d := 5) (op := .assign (.const (.int .i64 0))) (g := none) (v := .int .i64 0) (by kernel_rfl) (by kernel_rfl) (pv_assign rfl) ?_
  refine Rg.fin rfl ?_
  refine at_codeS [0] [(0, _), (1, _), (4, _), (5, _)] [base w (Low w)] (.cons rfl (.cons rfl (.cons rfl (.cons rfl (.nil _))))) rfl (by decide) (fun _ _ h => h) ?_
  refine ev_seq (by kernel_rfl) ?_
  refine ev_seq (by kernel_rfl) ?_
  refine ev_region (n := 4) (by kernel_rfl) ?_
  refine Rg.pure (d := 8) (op := .move (.tmp 0)) (g := none) (v := .slice p xs.length cap) (by kernel_rfl) (by kernel_rfl) (pv_move rfl) ?_
  refine Rg.pure (d := 9) (op := .call { callee := .builtin .len, args := #[.tmp 8], argTypes := #[29] }) (g := none) (v := .int .i64 (xs.length : Int)) (by kernel_rfl) (by kernel_rfl) (pv_len_slice rfl (by kernel_rfl)) ?_
  refine Rg.pure (d := 10) (op := .move (.tmp 1)) (g := none) (v := .int .i64 4) (by kernel_rfl) (by kernel_rfl) (pv_move rfl) ?_
  refine Rg.pure (d := 11) (op := .binOp .lss 3 (.tmp 9) (.tmp 10) 3) (g := none) (v := .bool (decide ((xs.length : Int) < 4))) (by kernel_rfl) (by kernel_rfl) (pv_lss rfl rfl) ?_
  refine Rg.fin rfl ?_
  refine at_codeS [0] [(0, _), (1, _), (4, _), (5, _), (11, _)] [base w (Low w)] (.cons rfl (.cons rfl (.cons rfl (.cons rfl (.cons rfl (.nil _)))))) rfl (by decide) (fun _ _ h => h) ?_
  refine ev_cond (t := 11) (by kernel_rfl) rfl (fun h1 => ?_) (fun h1 => ?_)
  ·
    have h2 := of_decide_eq_true h1
    refine ev_seq (by kernel_rfl) ?_
    refine ev_region (n := 2) (by kernel_rfl) ?_
    refine Rg.pure (d := 4) (op := .assign (.const (.int .u32 0))) (g := none) (v := .int .u32 0) (by kernel_rfl) (by kernel_rfl) (pv_assign rfl) ?_
    refine Rg.pure (d := 5) (op := .assign (.const (.int .i64 4))) (g := none) (v := .int .i64 4) (by kernel_rfl) (by kernel_rfl) (pv_assign rfl) ?_
    refine Rg.fin rfl ?_
    refine at_codeS [0] [(0, _), (1, _), (4, _), (5, _)] [base w (Low w)] (.cons rfl (.cons rfl (.cons rfl (.cons rfl (.nil _))))) rfl (by decide) (fun _ _ h => h) ?_
    refine ev_ret (by kernel_rfl) ?_
    refine At.via (Q := Q) hQ ?_
    refine At.ret2 rfl rfl rfl rfl ?_
    exact fun w hw => ⟨by simp [getN, getE, show xs.length < 4 by omega], hw.base_below 0 rfl⟩
  ·
    have h3 := of_decide_eq_false h1
    refine ev_skip (by kernel_rfl) ?_
    refine at_codeS [0] [(0, _), (1, _), (4, _), (5, _)] [base w (Low w)] (.cons rfl (.cons rfl (.cons rfl (.cons rfl (.nil _))))) rfl (by decide) (fun _ _ h => h) ?_
    refine ev_seq (by kernel_rfl) ?_
    refine ev_seq (by kernel_rfl) ?_
    refine ev_region (n := 5) (by kernel_rfl) ?_
    refine Rg.pure (d := 12) (op := .move (.tmp 0)) (g := none) (v := .slice p xs.length cap) (by kernel_rfl) (by kernel_rfl) (pv_move rfl) ?_
    refine Rg.pure (d := 13) (op := .move (.tmp 1)) (g := none) (v := .int .i64 4) (by kernel_rfl) (by kernel_rfl) (pv_move rfl) ?_
    refine Rg.pure (d := 14) (op := .slice 29 (.tmp 12) none (some (.tmp 13)) none) (g := none) (v := .slice p ((4 : Int).toNat) cap) (by kernel_rfl) (by kernel_rfl) (pv_slice_hi rfl rfl (e := 5) (sz := 1) (by kernel_rfl) (by omega) (by omega)) ?_
    refine Rg.pure (d := 15) (op := .call { callee := .builtin .len, args := #[.tmp 14], argTypes := #[29] }) (g := none) (v := .int .i64 ((4 : Int).toNat : Int)) (by kernel_rfl) (by kernel_rfl) (pv_len_slice rfl (by kernel_rfl)) ?_
    refine Rg.pure (d := 16) (op := .move (.const (.int .i64 0))) (g := none) (v := .int .i64 0) (by kernel_rfl) (by kernel_rfl) (pv_move rfl) ?_
    refine Rg.fin rfl ?_
    refine at_codeS [0] [(4, _), (5, _), (14, _), (15, _), (16, _)] [base w (Low w)] (.cons rfl (.cons rfl (.cons rfl (.cons rfl (.cons rfl (.nil _)))))) rfl (by decide) (fun _ _ h => h) ?_
    refine ev_block (id := 0) (by kernel_rfl) ?_
    refine ev_loop (T := Nat) (fun i => [(4, .int .u32 (getTo xs i)), (14, .slice p ((4 : Int).toNat) cap), (15, .int .i64 (((4 : Int).toNat : Nat) : Int)), (16, .int .i64 (i : Int))]) (fun i => [base w (Low w)]) (fun i => i ≤ 4) (fun i => 4 - i) 0 [0] (by kernel_rfl) (by omega) (.cons (rfl) (.cons (rfl) (.cons (rfl) (.cons (rfl) (.nil _))))) rfl (by decide) ?_
    rintro i (hi : i ≤ 4)
    show Ev _ _ [(4, .int .u32 (getTo xs i)), (14, .slice p ((4 : Int).toNat) cap), (15, .int .i64 (((4 : Int).toNat : Nat) : Int)), (16, .int .i64 (i : Int))] [base w (Low w)] _
    refine ev_seq (by kernel_rfl) ?_
    refine ev_region (n := 1) (by kernel_rfl) ?_
    refine Rg.pure (d := 17) (op := .binOp .lss 3 (.tmp 16) (.tmp 15) 3) (g := none) (v := .bool (decide ((i : Int) < (((4 : Int).toNat : Nat) : Int)))) (by kernel_rfl) (by kernel_rfl) (pv_lss rfl rfl) ?_
    refine Rg.fin rfl ?_
    refine at_codeS [0] [(4, _), (14, _), (15, _), (16, _), (17, _)] [base w (Low w)] (.cons rfl (.cons rfl (.cons rfl (.cons rfl (.cons rfl (.nil _)))))) rfl (by decide) (fun _ _ h => h) ?_
    refine ev_seq (by kernel_rfl) ?_
    refine ev_cond (t := 17) (by kernel_rfl) rfl (fun h4 => ?_) (fun h4 => ?_)
    ·
      have h5 := of_decide_eq_true h4
      refine ev_skip (by kernel_rfl) ?_
      refine at_codeS [0] [(4, _), (14, _), (15, _), (16, _), (17, _)] [base w (Low w)] (.cons rfl (.cons rfl (.cons rfl (.cons rfl (.cons rfl (.nil _)))))) rfl (by decide) (fun _ _ h => h) ?_
      refine ev_seq (by kernel_rfl) ?_
      refine ev_block (id := 1) (by kernel_rfl) ?_
      refine ev_seq (by kernel_rfl) ?_
      refine ev_region (n := 3) (by kernel_rfl) ?_
      have ⟨q1, o2, hp3⟩ := hB.adr (by omega)
      refine Rg.pure (d := 18) (op := .indexAddr 29 (.tmp 14) (.tmp 16)) (g := none) (v := .pointer (some ⟨q1, o2 + ((i : Int)).toNat * 1, none⟩)) (by kernel_rfl) (by kernel_rfl) (pv_indexAddr' rfl hp3 rfl (e := 5) (sz := 1) (by kernel_rfl) (by omega) (by omega)) ?_
      refine Rg.pure (d := 19) (op := .load 5 (.tmp 18)) (g := none) (v := .int .u8 ((xs).getD i 0)) (by kernel_rfl) (by kernel_rfl) (pv_load rfl (by kernel_rfl) (fun w hw => ((hB).keep (hw.at_ 0 rfl) (fun _ h => h)).cell _ _ hp3 _ (by omega) 0 (by decide))) ?_
      refine Rg.pure (d := 7) (op := .assign (.tmp 19)) (g := none) (v := .int .u8 ((xs).getD i 0)) (by kernel_rfl) (by kernel_rfl) (pv_assign rfl) ?_
      refine Rg.fin rfl ?_
      refine at_codeS [0] [(4, _), (7, _), (14, _), (15, _), (16, _), (17, _), (18, _), (19, _)] [base w (Low w)] (.cons rfl (.cons rfl (.cons rfl (.cons rfl (.cons rfl (.cons rfl (.cons rfl (.cons rfl (.nil _))))))))) rfl (by decide) (fun _ _ h => h) ?_
      refine ev_region (n := 6) (by kernel_rfl) ?_
      refine Rg.pure (d := 20) (op := .move (.tmp 4)) (g := none) (v := .int .u32 (getTo xs i)) (by kernel_rfl) (by kernel_rfl) (pv_move rfl) ?_
      refine Rg.pure (d := 21) (op := .binOp .shl 23 (.tmp 20) (.const (.int .u64 8)) 205) (g := none) (v := .int .u32 (shlI .u32 (getTo xs i) 8)) (by kernel_rfl) (by kernel_rfl) (pv_shl rfl rfl (by omega)) ?_
      refine Rg.pure (d := 22) (op := .move (.tmp 7)) (g := none) (v := .int .u8 ((xs).getD i 0)) (by kernel_rfl) (by kernel_rfl) (pv_move rfl) ?_
      refine Rg.pure (d := 23) (op := .convert 5 23 (.tmp 22)) (g := none) (v := .int .u32 (IntKind.u32.wrap ((xs).getD i 0))) (by kernel_rfl) (by kernel_rfl) (pv_convert (q' := .u32) rfl (by kernel_rfl) (by kernel_rfl)) ?_
      refine Rg.pure (d := 24) (op := .binOp .or 23 (.tmp 21) (.tmp 23) 23) (g := none) (v := .int .u32 (bitsI .or .u32 (shlI .u32 (getTo xs i) 8) (IntKind.u32.wrap ((xs).getD i 0)))) (by kernel_rfl) (by kernel_rfl) (pv_bits rfl rfl rfl) ?_
      refine Rg.pure (d := 4) (op := .assign (.tmp 24)) (g := none) (v := .int .u32 (bitsI .or .u32 (shlI .u32 (getTo xs i) 8) (IntKind.u32.wrap ((xs).getD i 0)))) (by kernel_rfl) (by kernel_rfl) (pv_assign rfl) ?_
      refine Rg.fin rfl ?_
      refine at_codeS [0] [(4, _), (7, _), (14, _), (15, _), (16, _), (17, _), (18, _), (19, _), (20, _), (21, _), (22, _), (23, _), (24, _)] [base w (Low w)] (.cons rfl (.cons rfl (.cons rfl (.cons rfl (.cons rfl (.cons rfl (.cons rfl (.cons rfl (.cons rfl (.cons rfl (.cons rfl (.cons rfl (.cons rfl (.nil _)))))))))))))) rfl (by decide) (fun _ _ h => h) ?_
      refine ev_region (n := 2) (by kernel_rfl) ?_
      refine Rg.pure (d := 25) (op := .binOp .add 3 (.tmp 16) (.const (.int .i64 1)) 3) (g := none) (v := .int .i64 ((i : Int) + 1)) (by kernel_rfl) (by kernel_rfl) (pv_addb rfl rfl (in_i64 (by omega) (by omega))) ?_
      refine Rg.pure (d := 16) (op := .move (.tmp 25)) (g := none) (v := .int .i64 ((i : Int) + 1)) (by kernel_rfl) (by kernel_rfl) (pv_move rfl) ?_
      refine Rg.fin rfl ?_
      refine At.round (fun _ _ h => h) (i + 1) [0] (by omega) (by show 4 - (i + 1) < 4 - i; omega) (.cons (rfl) (.cons (rfl) (.cons (rfl) (.cons (rfl) (.nil _))))) rfl (by decide)
    ·
      have h6 := of_decide_eq_false h4
      refine ev_exit (id := 0) (by kernel_rfl) ?_
      refine at_codeS [0] [(4, _)] [base w (Low w)] (.cons rfl (.nil _)) rfl (by decide) (fun _ _ h => h) ?_
      refine ev_seq (by kernel_rfl) ?_
      refine ev_region (n := 3) (by kernel_rfl) ?_
      refine Rg.pure (d := 26) (op := .move (.tmp 4)) (g := none) (v := .int .u32 (getTo xs i)) (by kernel_rfl) (by kernel_rfl) (pv_move rfl) ?_
      refine Rg.pure (d := 4) (op := .assign (.tmp 26)) (g := none) (v := .int .u32 (getTo xs i)) (by kernel_rfl) (by kernel_rfl) (pv_assign rfl) ?_
      refine Rg.pure (d := 5) (op := .assign (.const (.int .i64 0))) (g := none) (v := .int .i64 0) (by kernel_rfl) (by kernel_rfl) (pv_assign rfl) ?_
      refine Rg.fin rfl ?_
      refine at_codeS [0] [(4, _), (5, _)] [base w (Low w)] (.cons rfl (.cons rfl (.nil _))) rfl (by decide) (fun _ _ h => h) ?_
      refine ev_ret (by kernel_rfl) ?_
      refine At.via (Q := Q) hQ ?_
      refine At.ret2 rfl rfl rfl rfl ?_
      exact fun w hw => ⟨by have h : i = 4 := (by omega); subst h; simp [getN, getE, show ¬ xs.length < 4 by omega], hw.base_below 0 rfl⟩

set_option maxHeartbeats 8000000 in
theorem Get_calls {p : Option Addr} {xs : List Int} {cap : Nat} {w : World} (hB : BytesAt (Low w) w p xs) (hl : xs.length ≤ 4294967296) (hc : xs.length ≤ cap) :
    Calls Try.prog 115 #[.slice p xs.length cap] w (Ret w (.tuple #[.int .u32 (getN xs), .int .i64 (getE xs)])) := by
  refine calls_ofQ (args := [_]) [base w (Low w)] Try.func115 (by kernel_rfl) (by kernel_rfl) (Heap.start w) ?_
  intro Q hQ
  refine ev_seq (by kernel_rfl) ?_
  refine ev_region (n := 2) (by kernel_rfl) ?_
  refine Rg.pure (d := 2) (op := .assign (.const (.int .u32 0))) (g := none) (v := .int .u32 0) (by kernel_rfl) (by kernel_rfl) (pv_assign rfl) ?_
  refine Rg.pure (d := 3) (op := .assign (.const (.int .i64 0))) (g := none) (v := .int .i64 0) (by kernel_rfl) (by kernel_rfl) (pv_assign rfl) ?_
  refine Rg.fin rfl ?_
  refine at_codeS [0] [(0, _), (2, _), (3, _)] [base w (Low w)] (.cons rfl (.cons rfl (.cons rfl (.nil _)))) rfl (by decide) (fun _ _ h => h) ?_
  refine ev_seq (by kernel_rfl) ?_
  refine ev_region (n := 6) (by kernel_rfl) ?_
  refine Rg.pure (d := 4) (op := .move (.tmp 0)) (g := none) (v := .slice p xs.length cap) (by kernel_rfl) (by kernel_rfl) (pv_move rfl) ?_
  refine rg_call (d := some 5) (f := 152) (xs := #[.tmp 4, .const (.int .i64 4)]) (ts := #[29, 3]) (g := none) (v := .tuple #[.int .u32 (getN xs), .int .i64 (getE xs)]) (by kernel_rfl) (by kernel_rfl) (by kernel_rfl) rfl (fun w hw => get_calls ((hB).keep (hw.at_ 0 rfl) (fun k hk => hw.lt 0 rfl hk)) hl hc) ?_
  refine Rg.pure (d := 6) (op := .extract (.tmp 5) 0) (g := none) (v := .int .u32 (getN xs)) (by kernel_rfl) (by kernel_rfl) (pv_extract rfl rfl) ?_
  refine Rg.pure (d := 7) (op := .extract (.tmp 5) 1) (g := none) (v := .int .i64 (getE xs)) (by kernel_rfl) (by kernel_rfl) (pv_extract rfl rfl) ?_
  refine Rg.pure (d := 2) (op := .assign (.tmp 6)) (g := none) (v := .int .u32 (getN xs)) (by kernel_rfl) (by kernel_rfl) (pv_assign rfl) ?_
  refine Rg.pure (d := 3) (op := .assign (.tmp 7)) (g := none) (v := .int .i64 (getE xs)) (by kernel_rfl) (by kernel_rfl) (pv_assign rfl) ?_
  refine Rg.fin rfl ?_
  refine at_codeS [0] [(2, _), (3, _)] [base w (Low w)] (.cons rfl (.cons rfl (.nil _))) rfl (by decide) (fun _ _ h => h) ?_
  refine ev_ret (by kernel_rfl) ?_
  refine At.via (Q := Q) hQ ?_
  refine At.ret2 rfl rfl rfl rfl ?_
  exact fun w hw => ⟨rfl, hw.base_below 0 rfl⟩

def byteAt (n : Int) (m k : Nat) : Int := IntKind.u8.wrap (shrI .u64 n (8 * ((m : Int) - 1 - (k : Int))))
def putV (n : Int) (m : Nat) : Nat → List Value
  | 0 => []
  | k + 1 => putV n m k ++ [.int .u8 (byteAt n m k)]
def byteRows (n : Int) (m : Nat) : List (List Value) := (List.range m).map fun k => [.int .u8 (byteAt n m k)]
theorem getD_rangeMap {α : Type} (f : Nat → α) (d : α) {m k : Nat} (h : k < m) : ((List.range m).map f).getD k d = f k := by
  simp [List.getD_eq_getElem?_getD, List.getElem?_map, List.getElem?_range h]
theorem byteRows_length (n : Int) (m : Nat) : (byteRows n m).length = m := by simp [byteRows]

set_option maxHeartbeats 8000000 in
theorem bytes_calls {n m : Int} {w : World} :
    Calls Try.prog 154 #[.int .u64 n, .int .i64 m] w (RetN w (fun _ : Nat × Nat => True) (fun x => .func (.func 173) #[] #[.pointer (some ⟨x.1, 0, none⟩), .pointer (some ⟨x.2, 0, none⟩)]) (fun x => [blk x.1 (.cells #[.int .i64 m] 3 (0, 0)), blk x.2 (.cells #[.int .u64 n] 34 (0, 0))])) := by
  refine calls_ofQ (args := [_, _]) [base w (Low w)] Try.func154 (by kernel_rfl) (by kernel_rfl) (Heap.start w) ?_
  intro Q hQ
  refine ev_seq (by kernel_rfl) ?_
  refine ev_region (n := 3) (by kernel_rfl) ?_
  refine rg_box (d := 2) (t := 34) (x := .tmp 0) (g := none) (by kernel_rfl) (by kernel_rfl) rfl ?_
  intro b1
  refine rg_box (d := 3) (t := 3) (x := .tmp 1) (g := none) (by kernel_rfl) (by kernel_rfl) rfl ?_
  intro b2
  refine Rg.pure (d := 4) (op := .assign (.const (.nilFunc))) (g := none) (v := .nilFunc) (by kernel_rfl) (by kernel_rfl) (pv_assign rfl) ?_
  refine Rg.fin rfl ?_
  refine at_codeS [0, 1, 2] [(2, _), (3, _), (4, _)] [blk b2 (.cells #[.int .i64 m] 3 (0, 0)), blk b1 (.cells #[.int .u64 n] 34 (0, 0)), base w (Low w)] (.cons rfl (.cons rfl (.cons rfl (.nil _)))) rfl (by decide) (fun _ _ h => h) ?_
  refine ev_seq (by kernel_rfl) ?_
  refine ev_region (n := 2) (by kernel_rfl) ?_
  refine Rg.pure (d := 5) (op := .makeFunc (.func 173) #[] #[.tmp 3, .tmp 2]) (g := none) (v := .func (.func 173) #[] #[.pointer (some ⟨b2, 0, none⟩), .pointer (some ⟨b1, 0, none⟩)]) (by kernel_rfl) (by kernel_rfl) (pv_makeFunc (xs := [.tmp 3, .tmp 2]) rfl) ?_
  refine Rg.pure (d := 4) (op := .assign (.tmp 5)) (g := none) (v := .func (.func 173) #[] #[.pointer (some ⟨b2, 0, none⟩), .pointer (some ⟨b1, 0, none⟩)]) (by kernel_rfl) (by kernel_rfl) (pv_assign rfl) ?_
  refine Rg.fin rfl ?_
  refine at_codeS [0, 1, 2] [(4, _)] [blk b2 (.cells #[.int .i64 m] 3 (0, 0)), blk b1 (.cells #[.int .u64 n] 34 (0, 0)), base w (Low w)] (.cons rfl (.nil _)) rfl (by decide) (fun _ _ h => h) ?_
  refine ev_ret (by kernel_rfl) ?_
  refine At.via (Q := Q) hQ ?_
  refine At.ret1 rfl rfl rfl ?_
  exact fun w hw => ⟨(b2, b1), trivial, rfl, hw⟩

set_option maxHeartbeats 8000000 in
theorem bytes1_iter {n : Int} {m : Nat} {b c : Nat} {w0 : World} {it : Item} (hm : m ≤ 8) :
    IterAt Try.prog 173 #[.pointer (some ⟨c, 0, none⟩), .pointer (some ⟨b, 0, none⟩)] (byteRows n m) w0 [blk c (.cells #[.int .i64 (m : Int)] 3 (0, 0)), blk b (.cells #[.int .u64 n] 34 (0, 0))] [it] := by
  intro T J Jx l t0 w fr h hY
  refine calls_ofQ (args := [.func (.yield l) #[] #[], .pointer (some ⟨c, 0, none⟩), .pointer (some ⟨b, 0, none⟩)]) [blk c (.cells #[.int .i64 (m : Int)] 3 (0, 0)), blk b (.cells #[.int .u64 n] 34 (0, 0)), J 0 t0, fr, it] Try.func173 (by kernel_rfl) (by kernel_rfl) h ?_
  intro Q hQ
  refine ev_seq (by kernel_rfl) ?_
  refine ev_region (n := 3) (by kernel_rfl) ?_
  refine Rg.pure (d := 5) (op := .load 3 (.tmp 1)) (g := none) (v := .int .i64 (m : Int)) (by kernel_rfl) (by kernel_rfl) (pv_load_blk 0 rfl rfl (by kernel_rfl) rfl) ?_
  refine Rg.pure (d := 6) (op := .binOp .sub 3 (.tmp 5) (.const (.int .i64 1)) 3) (g := none) (v := .int .i64 ((m : Int) - 1)) (by kernel_rfl) (by kernel_rfl) (pv_subb rfl rfl (in_i64 (by omega) (by omega))) ?_
  refine Rg.pure (d := 4) (op := .assign (.tmp 6)) (g := none) (v := .int .i64 ((m : Int) - 1)) (by kernel_rfl) (by kernel_rfl) (pv_assign rfl) ?_
  refine Rg.fin rfl ?_
  refine at_codeS [0, 1, 2, 3, 4] [(0, _), (2, _), (4, _)] [blk c (.cells #[.int .i64 (m : Int)] 3 (0, 0)), blk b (.cells #[.int .u64 n] 34 (0, 0)), J 0 t0, fr, it] (.cons rfl (.cons rfl (.cons rfl (.nil _)))) rfl (by decide) (fun _ _ h => h) ?_
  refine ev_block (id := 0) (by kernel_rfl) ?_
  refine ev_loop (T := Nat × T) (fun x_ => (fun k t => [(0, .func (.yield l) #[] #[]), (2, .pointer (some ⟨b, 0, none⟩)), (4, .int .i64 ((m : Int) - 1 - (k : Int)))]) x_.1 x_.2) (fun x_ => (fun k t => [blk c (.cells #[.int .i64 (m : Int)] 3 (0, 0)), blk b (.cells #[.int .u64 n] 34 (0, 0)), J k t, fr, it]) x_.1 x_.2) (fun x_ => (fun k t => k ≤ m) x_.1 x_.2) (fun x_ => (fun k t => m - k) x_.1 x_.2) (0, t0) [0, 1, 2, 3, 4] (by kernel_rfl) (by show 0 ≤ m; omega) (.cons (rfl) (.cons (rfl) (.cons (congrArg (fun z => some (Value.int .i64 z)) (by omega)) (.nil _)))) rfl (by decide) ?_
  rintro ⟨k, t⟩ (hk : k ≤ m)
  show Ev _ _ [(0, .func (.yield l) #[] #[]), (2, .pointer (some ⟨b, 0, none⟩)), (4, .int .i64 ((m : Int) - 1 - (k : Int)))] [blk c (.cells #[.int .i64 (m : Int)] 3 (0, 0)), blk b (.cells #[.int .u64 n] 34 (0, 0)), J k t, fr, it] _
  refine ev_seq (by kernel_rfl) ?_
  refine ev_seq (by kernel_rfl) ?_
  refine ev_region (n := 2) (by kernel_rfl) ?_
  refine Rg.pure (d := 7) (op := .move (.tmp 4)) (g := none) (v := .int .i64 ((m : Int) - 1 - (k : Int))) (by kernel_rfl) (by kernel_rfl) (pv_move rfl) ?_
  refine Rg.pure (d := 8) (op := .binOp .geq 3 (.tmp 7) (.const (.int .i64 0)) 3) (g := none) (v := .bool (decide (0 ≤ ((m : Int) - 1 - (k : Int))))) (by kernel_rfl) (by kernel_rfl) (pv_geq rfl rfl) ?_
  refine Rg.fin rfl ?_
  refine at_codeS [0, 1, 2, 3, 4] [(0, _), (2, _), (4, _), (7, _), (8, _)] [blk c (.cells #[.int .i64 (m : Int)] 3 (0, 0)), blk b (.cells #[.int .u64 n] 34 (0, 0)), J k t, fr, it] (.cons rfl (.cons rfl (.cons rfl (.cons rfl (.cons rfl (.nil _)))))) rfl (by decide) (fun _ _ h => h) ?_
  refine ev_cond (t := 8) (by kernel_rfl) rfl (fun h1 => ?_) (fun h1 => ?_)
  ·
    have h2 := of_decide_eq_true h1
    refine ev_skip (by kernel_rfl) ?_
    refine at_codeS [0, 1, 2, 3, 4] [(0, _), (2, _), (4, _), (7, _), (8, _)] [blk c (.cells #[.int .i64 (m : Int)] 3 (0, 0)), blk b (.cells #[.int .u64 n] 34 (0, 0)), J k t, fr, it] (.cons rfl (.cons rfl (.cons rfl (.cons rfl (.cons rfl (.nil _)))))) rfl (by decide) (fun _ _ h => h) ?_
    refine ev_seq (by kernel_rfl) ?_
    refine ev_block (id := 1) (by kernel_rfl) ?_
    refine ev_seq (by kernel_rfl) ?_
    refine ev_region (n := 8) (by kernel_rfl) ?_
    refine Rg.pure (d := 11) (op := .move (.tmp 0)) (g := none) (v := .func (.yield l) #[] #[]) (by kernel_rfl) (by kernel_rfl) (pv_move rfl) ?_
    refine Rg.pure (d := 12) (op := .load 34 (.tmp 2)) (g := none) (v := .int .u64 n) (by kernel_rfl) (by kernel_rfl) (pv_load_blk 1 rfl rfl (by kernel_rfl) rfl) ?_
    refine Rg.pure (d := 13) (op := .move (.tmp 4)) (g := none) (v := .int .i64 ((m : Int) - 1 - (k : Int))) (by kernel_rfl) (by kernel_rfl) (pv_move rfl) ?_
    refine Rg.pure (d := 14) (op := .binOp .mul 3 (.const (.int .i64 8)) (.tmp 13) 3) (g := none) (v := .int .i64 (8 * ((m : Int) - 1 - (k : Int)))) (by kernel_rfl) (by kernel_rfl) (pv_mulb rfl rfl (in_i64 (by omega) (by omega))) ?_
    refine Rg.pure (d := 15) (op := .binOp .shr 34 (.tmp 12) (.tmp 14) 3) (g := none) (v := .int .u64 (shrI .u64 n (8 * ((m : Int) - 1 - (k : Int))))) (by kernel_rfl) (by kernel_rfl) (pv_shr rfl rfl (by omega)) ?_
    refine Rg.pure (d := 16) (op := .convert 34 5 (.tmp 15)) (g := none) (v := .int .u8 (IntKind.u8.wrap (shrI .u64 n (8 * ((m : Int) - 1 - (k : Int)))))) (by kernel_rfl) (by kernel_rfl) (pv_convert (q' := .u8) rfl (by kernel_rfl) (by kernel_rfl)) ?_
    refine rg_yield (T := T) (d := 17) (l := l) (fo := .tmp 11) (xs := #[.tmp 16]) (ts := #[5]) (g := none) (S1 := fun t1 => [blk c (.cells #[.int .i64 (m : Int)] 3 (0, 0)), blk b (.cells #[.int .u64 n] 34 (0, 0)), J (k + 1) t1, fr, it]) (S2 := fun t1 => [blk c (.cells #[.int .i64 (m : Int)] 3 (0, 0)), blk b (.cells #[.int .u64 n] 34 (0, 0)), Jx (k + 1) t1, fr, it]) rfl (by kernel_rfl) (by kernel_rfl) rfl rfl (yield_own hY [blk c (.cells #[.int .i64 (m : Int)] 3 (0, 0)), blk b (.cells #[.int .u64 n] 34 (0, 0))] (k) t (by rw [byteRows_length]; omega) (by unfold byteRows; rw [getD_rangeMap _ _ (by omega)]; rfl)) (fun t1 => ?_) (fun t1 => ?_)
    ·
      refine Rg.pure (d := 18) (op := .unOp .not 4 (.tmp 17)) (g := none) (v := .bool false) (by kernel_rfl) (by kernel_rfl) (pv_not (b := true) rfl) ?_
      refine Rg.fin rfl ?_
      refine at_codeS [0, 1, 2, 3, 4] [(0, _), (2, _), (4, _), (7, _), (8, _), (11, _), (12, _), (13, _), (14, _), (15, _), (16, _), (17, _), (18, _)] [blk c (.cells #[.int .i64 (m : Int)] 3 (0, 0)), blk b (.cells #[.int .u64 n] 34 (0, 0)), J (k + 1) t1, fr, it] (.cons rfl (.cons rfl (.cons rfl (.cons rfl (.cons rfl (.cons rfl (.cons rfl (.cons rfl (.cons rfl (.cons rfl (.cons rfl (.cons rfl (.cons rfl (.nil _)))))))))))))) rfl (by decide) (fun _ _ h => h) ?_
      refine ev_cond_f (t := 18) (by kernel_rfl) rfl ?_
      refine ev_skip (by kernel_rfl) ?_
      refine at_codeS [0, 1, 2, 3, 4] [(0, _), (2, _), (4, _), (7, _), (8, _), (11, _), (12, _), (13, _), (14, _), (15, _), (16, _), (17, _), (18, _)] [blk c (.cells #[.int .i64 (m : Int)] 3 (0, 0)), blk b (.cells #[.int .u64 n] 34 (0, 0)), J (k + 1) t1, fr, it] (.cons rfl (.cons rfl (.cons rfl (.cons rfl (.cons rfl (.cons rfl (.cons rfl (.cons rfl (.cons rfl (.cons rfl (.cons rfl (.cons rfl (.cons rfl (.nil _)))))))))))))) rfl (by decide) (fun _ _ h => h) ?_
      refine ev_region (n := 3) (by kernel_rfl) ?_
      refine Rg.pure (d := 9) (op := .move (.tmp 4)) (g := none) (v := .int .i64 ((m : Int) - 1 - (k : Int))) (by kernel_rfl) (by kernel_rfl) (pv_move rfl) ?_
      refine Rg.pure (d := 10) (op := .binOp .sub 3 (.tmp 9) (.const (.int .i64 1)) 3) (g := none) (v := .int .i64 (((m : Int) - 1 - (k : Int)) - 1)) (by kernel_rfl) (by kernel_rfl) (pv_subb rfl rfl (in_i64 (by omega) (by omega))) ?_
      refine Rg.pure (d := 4) (op := .assign (.tmp 10)) (g := none) (v := .int .i64 (((m : Int) - 1 - (k : Int)) - 1)) (by kernel_rfl) (by kernel_rfl) (pv_assign rfl) ?_
      refine Rg.fin rfl ?_
      refine At.round (t := (k, t)) (fun _ _ h => h) (k + 1, t1) [0, 1, 2, 3, 4] (by show k + 1 ≤ m; omega) (by show m - (k + 1) < m - k; omega) (.cons (rfl) (.cons (rfl) (.cons (congrArg (fun z => some (Value.int .i64 z)) (by omega)) (.nil _)))) rfl (by decide)
    ·
      refine Rg.pure (d := 18) (op := .unOp .not 4 (.tmp 17)) (g := none) (v := .bool true) (by kernel_rfl) (by kernel_rfl) (pv_not (b := false) rfl) ?_
      refine Rg.fin rfl ?_
      refine at_codeS [0, 1, 2, 3, 4] [(0, _), (2, _), (4, _), (7, _), (8, _), (11, _), (12, _), (13, _), (14, _), (15, _), (16, _), (17, _), (18, _)] [blk c (.cells #[.int .i64 (m : Int)] 3 (0, 0)), blk b (.cells #[.int .u64 n] 34 (0, 0)), Jx (k + 1) t1, fr, it] (.cons rfl (.cons rfl (.cons rfl (.cons rfl (.cons rfl (.cons rfl (.cons rfl (.cons rfl (.cons rfl (.cons rfl (.cons rfl (.cons rfl (.cons rfl (.nil _)))))))))))))) rfl (by decide) (fun _ _ h => h) ?_
      refine ev_cond_t (t := 18) (by kernel_rfl) rfl ?_
      refine ev_ret (by kernel_rfl) ?_
      refine At.via (Q := Q) hQ ?_
      refine At.ret0 ?_ ?_ ?_
      · rfl
      · rfl
      exact fun w hw => ⟨⟨_, rfl⟩, .inr ⟨_, _, (by rw [byteRows_length]; omega), hw.pick [2, 3, 4] (by decide)⟩⟩
  ·
    have h3 := of_decide_eq_false h1
    refine ev_exit (id := 0) (by kernel_rfl) ?_
    refine At.via (Q := Q) hQ ?_
    refine At.norm0 ?_ ?_ ?_
    · rfl
    · rfl
    exact fun w hw => ⟨⟨_, rfl⟩, .inl ⟨t, (by have e : k = (byteRows n m).length := (by rw [byteRows_length]; omega); subst e; exact hw.pick [2, 3, 4] (by decide))⟩⟩

end Go.Proofs.Ytfhhggcdmgjbcaa.Sx
