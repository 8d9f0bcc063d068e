/-
  A part of the walk of the seat: laws of a small proof system, and contracts of functions, each proved. Conditions: as each theorem says.
-/
import Derived.Test.YtfhhggcdmgjbcaaProg
import Derived.Test.YtfhhggcdmgjbcaaT6
namespace Go.Proofs.Ytfhhggcdmgjbcaa.Sx
open Go Go.RowKit Go.Proofs

def crcStep (x : Int) : Int := bitsI .xor .u32 (shrI .u32 x 1) (bitsI .and .u32 (negI .u32 (bitsI .and .u32 x 1)) 3988292384)
def crcN (x : Int) : Nat → Int
  | 0 => x
  | n + 1 => crcStep (crcN x n)

set_option maxHeartbeats 8000000 in
theorem sum1_calls {x : Int} {w : World} :
  Calls Try.prog 172 #[.int .u32 x] w (Ret w (.int .u32 (crcN x 8))) := by
 refine calls_ofQ (args := [_]) [base w (Low w)] Try.func172 (by kernel_rfl) (by kernel_rfl) (Heap.start w) ?_
 intro Q hQ
 refine Ev.sr 1 ?_
 refine Rg.ac 2 (.int .u32 0) ?_
 refine Rg.nx (fun _ _ h => h) [2,0] rfl ?_
 refine Ev.sq ?_
 refine Ev.sr 1 ?_
 refine Rg.mc 3 (.int .i64 0) ?_
 refine Rg.nx (fun _ _ h => h) [3,2,0] rfl ?_
 refine Ev.bk 0 ?_
 refine ev_loop (T := Nat) (fun i => [(0, .int .u32 (crcN x i)), (3, .int .i64 (i : Int))]) (fun i => [base w (Low w)]) (fun i => i ≤ 8) (fun i => 8 - i) 0 [0] (by kernel_rfl) (by omega) (.cons (rfl) (.cons (rfl) (.nil _))) rfl (by decide) ?_
 rintro i (hi : i ≤ 8)
 show Ev _ _ [(0, .int .u32 (crcN x i)), (3, .int .i64 (i : Int))] [base w (Low w)] _
 refine Ev.sr 1 ?_
 refine Rg.p 4 (.binOp .lss 3 (.tmp 3) (.const (.int .i64 8)) 3) (pv_lss rfl rfl) ?_
 refine Rg.nx (fun _ _ h => h) [4,3,0] rfl ?_
 refine Ev.sq ?_
 refine Ev.cd 4 rfl (fun h1 => ?_) (fun h1 => ?_)
 ·
  have h2 := of_decide_eq_true h1
  refine Ev.sk ?_
  refine At.nx (fun _ _ h => h) [4,3,0] rfl ?_
  refine Ev.sq ?_
  refine Ev.bk 1 ?_
  refine Ev.rg 8 ?_
  refine Rg.mv 5 0 rfl ?_
  refine Rg.p 6 (.binOp .shr 23 (.tmp 5) (.const (.int .u64 1)) 205) (pv_shr rfl rfl (by omega)) ?_
  refine Rg.mv 7 0 rfl ?_
  refine Rg.p 8 (.binOp .and 23 (.tmp 7) (.const (.int .u32 1)) 23) (pv_bits rfl rfl rfl) ?_
  refine Rg.p 9 (.unOp .neg 23 (.tmp 8)) (pv_neg rfl) ?_
  refine Rg.p 10 (.binOp .and 23 (.tmp 9) (.const (.int .u32 3988292384)) 23) (pv_bits rfl rfl rfl) ?_
  refine Rg.p 11 (.binOp .xor 23 (.tmp 6) (.tmp 10) 23) (pv_bits rfl rfl rfl) ?_
  refine Rg.as 0 11 rfl ?_
  refine Rg.nx (fun _ _ h => h) [11,10,9,8,7,6,5,4,3,0] rfl ?_
  refine Ev.rg 2 ?_
  refine Rg.p 12 (.binOp .add 3 (.tmp 3) (.const (.int .i64 1)) 3) (pv_addb rfl rfl (in_i64 (by omega) (by omega))) ?_
  refine Rg.mv 3 12 rfl ?_
  refine Rg.fin rfl ?_
  refine At.round (fun _ _ h => h) (i + 1) [0] (by omega) (by show 8 - (i + 1) < 8 - i; omega) (.cons (rfl) (.cons (rfl) (.nil _))) rfl (by decide)
 ·
  have h3 := of_decide_eq_false h1
  refine Ev.xt 0 ?_
  refine At.nx (fun _ _ h => h) [0] rfl ?_
  refine Ev.sr 2 ?_
  refine Rg.mv 13 0 rfl ?_
  refine Rg.as 2 13 rfl ?_
  refine Rg.nx (fun _ _ h => h) [2] rfl ?_
  refine Ev.rt ?_
  refine At.via (Q := Q) hQ ?_
  refine At.ret1 rfl rfl rfl ?_
  exact fun w hw => ⟨by have h : i = 8 := (by omega); subst h; rfl, hw.base_below 0 rfl⟩

def sumTo (xs : List Int) : Nat → Int
  | 0 => 4294967295
  | n + 1 => crcN (bitsI .xor .u32 (sumTo xs n) (IntKind.u32.wrap (xs.getD n 0))) 8
def sumS (xs : List Int) : Int := invI .u32 (sumTo xs xs.length)

set_option maxHeartbeats 8000000 in
theorem sum_calls {p : Option Addr} {xs : List Int} {cap : Nat} {w : World} (hB : BytesAt (Low w) w p xs) (hl : xs.length ≤ 4294967296) :
  Calls Try.prog 151 #[.slice p xs.length cap] w (Ret w (.int .u32 (sumS xs))) := by
 refine calls_ofQ (args := [_]) [base w (Low w)] Try.func151 (by kernel_rfl) (by kernel_rfl) (Heap.start w) ?_
 intro Q hQ
 refine Ev.sr 1 ?_
 refine Rg.ac 2 (.int .u32 0) ?_
 refine Rg.nx (fun _ _ h => h) [2,0] rfl ?_
 refine Ev.sr 1 ?_
 refine Rg.p 3 (.assign (.func 172)) (pv_assign rfl) ?_
 refine Rg.nx (fun _ _ h => h) [3,2,0] rfl ?_
 refine Ev.sr 1 ?_
 refine Rg.ac 4 (.int .u32 4294967295) ?_
 refine Rg.nx (fun _ _ h => h) [4,3,2,0] rfl ?_
 refine Ev.sq ?_
 refine Ev.sr 3 ?_
 refine Rg.mv 7 0 rfl ?_
 refine Rg.p 8 (.call { callee := .builtin .len, args := #[.tmp 7], argTypes := #[29] }) (pv_len_slice rfl (by kernel_rfl)) ?_
 refine Rg.mc 9 (.int .i64 0) ?_
 refine Rg.nx (fun _ _ h => h) [9,8,7,4,3,2] rfl ?_
 refine Ev.bk 0 ?_
 refine ev_loop (T := Nat) (fun i => [(3, .func (.func 172) #[] #[]), (4, .int .u32 (sumTo xs i)), (7, .slice p xs.length cap), (8, .int .i64 (xs.length : Int)), (9, .int .i64 (i : Int))]) (fun i => [base w (Low w)]) (fun i => i ≤ xs.length) (fun i => xs.length - i) 0 [0] (by kernel_rfl) (by omega) (.cons (rfl) (.cons (rfl) (.cons (rfl) (.cons (rfl) (.cons (rfl) (.nil _)))))) rfl (by decide) ?_
 rintro i (hi : i ≤ xs.length)
 show Ev _ _ [(3, .func (.func 172) #[] #[]), (4, .int .u32 (sumTo xs i)), (7, .slice p xs.length cap), (8, .int .i64 (xs.length : Int)), (9, .int .i64 (i : Int))] [base w (Low w)] _
 refine Ev.sr 1 ?_
 refine Rg.p 10 (.binOp .lss 3 (.tmp 9) (.tmp 8) 3) (pv_lss rfl rfl) ?_
 refine Rg.nx (fun _ _ h => h) [10,9,8,7,4,3] rfl ?_
 refine Ev.sq ?_
 refine Ev.cd 10 rfl (fun h1 => ?_) (fun h1 => ?_)
 ·
  have h2 := of_decide_eq_true h1
  refine Ev.sk ?_
  refine At.nx (fun _ _ h => h) [10,9,8,7,4,3] rfl ?_
  refine Ev.sq ?_
  refine Ev.bk 1 ?_
  refine Ev.sr 3 ?_
  have ⟨q1, o2, hp3⟩ := hB.adr (by omega)
  refine Rg.p 11 (.indexAddr 29 (.tmp 7) (.tmp 9)) (v := .pointer (some ⟨q1, o2 + ((i : Int)).toNat * 1, none⟩)) (pv_indexAddr' rfl hp3 rfl (e := 5) (sz := 1) (by kernel_rfl) (by omega) (by omega)) ?_
  refine Rg.p 12 (.load 5 (.tmp 11)) (v := .int .u8 ((xs).getD i 0)) (pv_load rfl (by kernel_rfl) (fun w hw => ((hB).keep (hw.at_ 0 rfl) (fun _ h => h)).cell _ _ hp3 _ (by omega) 0 (by decide))) ?_
  refine Rg.as 6 12 rfl ?_
  refine Rg.nx (fun _ _ h => h) [12,11,10,9,8,7,6,4,3] rfl ?_
  refine Ev.rg 7 ?_
  refine Rg.mv 13 3 rfl ?_
  refine Rg.mv 14 4 rfl ?_
  refine Rg.mv 15 6 rfl ?_
  refine Rg.p 16 (.convert 5 23 (.tmp 15)) (pv_convert (q' := .u32) rfl (by kernel_rfl) (by kernel_rfl)) ?_
  refine Rg.p 17 (.binOp .xor 23 (.tmp 14) (.tmp 16) 23) (pv_bits rfl rfl rfl) ?_
  refine rg_callD (d := some 18) (f := 172) (fo := .tmp 13) (caps := #[]) (xs := #[.tmp 17]) (ts := #[23]) (g := none) (v := .int .u32 (crcN (bitsI .xor .u32 (sumTo xs i) (IntKind.u32.wrap ((xs).getD i 0))) 8)) (by kernel_rfl) (by kernel_rfl) rfl (by kernel_rfl) rfl (fun w hw => sum1_calls) ?_
  refine Rg.as 4 18 rfl ?_
  refine Rg.nx (fun _ _ h => h) [18,17,16,15,14,13,12,11,10,9,8,7,6,4,3] rfl ?_
  refine Ev.rg 2 ?_
  refine Rg.p 19 (.binOp .add 3 (.tmp 9) (.const (.int .i64 1)) 3) (pv_addb rfl rfl (in_i64 (by omega) (by omega))) ?_
  refine Rg.mv 9 19 rfl ?_
  refine Rg.fin rfl ?_
  refine At.round (fun _ _ h => h) (i + 1) [0] (by omega) (by show xs.length - (i + 1) < xs.length - i; omega) (.cons (rfl) (.cons (rfl) (.cons (rfl) (.cons (rfl) (.cons (rfl) (.nil _)))))) rfl (by decide)
 ·
  have h3 := of_decide_eq_false h1
  refine Ev.xt 0 ?_
  refine At.nx (fun _ _ h => h) [4] rfl ?_
  refine Ev.sr 3 ?_
  refine Rg.mv 20 4 rfl ?_
  refine Rg.p 21 (.unOp .xor 23 (.tmp 20)) (pv_inv rfl) ?_
  refine Rg.as 2 21 rfl ?_
  refine Rg.nx (fun _ _ h => h) [2] rfl ?_
  refine Ev.rt ?_
  refine At.via (Q := Q) hQ ?_
  refine At.ret1 rfl rfl rfl ?_
  exact fun w hw => ⟨by have h : i = xs.length := (by omega); subst h; rfl, hw.base_below 0 rfl⟩

def getTo (xs : List Int) : Nat → Int
  | 0 => 0
  | n + 1 => bitsI .or .u32 (shlI .u32 (getTo xs n) 8) (IntKind.u32.wrap (xs.getD n 0))
def getN (xs : List Int) : Int := if xs.length < 4 then 0 else getTo xs 4
def getE (xs : List Int) : Int := if xs.length < 4 then 4 else 0

set_option maxHeartbeats 8000000 in
theorem get_calls {p : Option Addr} {xs : List Int} {cap : Nat} {w : World} (hB : BytesAt (Low w) w p xs) (hl : xs.length ≤ 4294967296) (hc : xs.length ≤ cap) :
  Calls Try.prog 152 #[.slice p xs.length cap, .int .i64 4] w (Ret w (.tuple #[.int .u32 (getN xs), .int .i64 (getE xs)])) := by
 refine calls_ofQ (args := [_, _]) [base w (Low w)] Try.func152 (by kernel_rfl) (by kernel_rfl) (Heap.start w) ?_
 intro Q hQ
 refine Ev.sr 2 ?_
 refine Rg.ac 4 (.int .u32 0) ?_
 refine Rg.ac 5 (.int .i64 0) ?_
 refine Rg.nx (fun _ _ h => h) [5,4,1,0] rfl ?_
 refine Ev.sq ?_
 refine Ev.sr 4 ?_
 refine Rg.mv 8 0 rfl ?_
 refine Rg.p 9 (.call { callee := .builtin .len, args := #[.tmp 8], argTypes := #[29] }) (pv_len_slice rfl (by kernel_rfl)) ?_
 refine Rg.mv 10 1 rfl ?_
 refine Rg.p 11 (.binOp .lss 3 (.tmp 9) (.tmp 10) 3) (pv_lss rfl rfl) ?_
 refine Rg.nx (fun _ _ h => h) [11,5,4,1,0] rfl ?_
 refine Ev.cd 11 rfl (fun h1 => ?_) (fun h1 => ?_)
 ·
  have h2 := of_decide_eq_true h1
  refine Ev.sr 2 ?_
  refine Rg.ac 4 (.int .u32 0) ?_
  refine Rg.ac 5 (.int .i64 4) ?_
  refine Rg.nx (fun _ _ h => h) [5,4,1,0] rfl ?_
  refine Ev.rt ?_
  refine At.via (Q := Q) hQ ?_
  refine At.ret2 rfl rfl rfl rfl ?_
  exact fun w hw => ⟨by simp [getN, getE, show xs.length < 4 by omega], hw.base_below 0 rfl⟩
 ·
  have h3 := of_decide_eq_false h1
  refine Ev.sk ?_
  refine At.nx (fun _ _ h => h) [5,4,1,0] rfl ?_
  refine Ev.sq ?_
  refine Ev.sr 5 ?_
  refine Rg.mv 12 0 rfl ?_
  refine Rg.mv 13 1 rfl ?_
  refine Rg.p 14 (.slice 29 (.tmp 12) none (some (.tmp 13)) none) (v := .slice p ((4 : Int).toNat) cap) (pv_slice_hi rfl rfl (e := 5) (sz := 1) (by kernel_rfl) (by omega) (by omega)) ?_
  refine Rg.p 15 (.call { callee := .builtin .len, args := #[.tmp 14], argTypes := #[29] }) (pv_len_slice rfl (by kernel_rfl)) ?_
  refine Rg.mc 16 (.int .i64 0) ?_
  refine Rg.nx (fun _ _ h => h) [16,15,14,5,4] rfl ?_
  refine Ev.bk 0 ?_
  refine ev_loop (T := Nat) (fun i => [(4, .int .u32 (getTo xs i)), (14, .slice p ((4 : Int).toNat) cap), (15, .int .i64 (((4 : Int).toNat : Nat) : Int)), (16, .int .i64 (i : Int))]) (fun i => [base w (Low w)]) (fun i => i ≤ 4) (fun i => 4 - i) 0 [0] (by kernel_rfl) (by omega) (.cons (rfl) (.cons (rfl) (.cons (rfl) (.cons (rfl) (.nil _))))) rfl (by decide) ?_
  rintro i (hi : i ≤ 4)
  show Ev _ _ [(4, .int .u32 (getTo xs i)), (14, .slice p ((4 : Int).toNat) cap), (15, .int .i64 (((4 : Int).toNat : Nat) : Int)), (16, .int .i64 (i : Int))] [base w (Low w)] _
  refine Ev.sr 1 ?_
  refine Rg.p 17 (.binOp .lss 3 (.tmp 16) (.tmp 15) 3) (pv_lss rfl rfl) ?_
  refine Rg.nx (fun _ _ h => h) [17,16,15,14,4] rfl ?_
  refine Ev.sq ?_
  refine Ev.cd 17 rfl (fun h4 => ?_) (fun h4 => ?_)
  ·
   have h5 := of_decide_eq_true h4
   refine Ev.sk ?_
   refine At.nx (fun _ _ h => h) [17,16,15,14,4] rfl ?_
   refine Ev.sq ?_
   refine Ev.bk 1 ?_
   refine Ev.sr 3 ?_
   have ⟨q1, o2, hp3⟩ := hB.adr (by omega)
   refine Rg.p 18 (.indexAddr 29 (.tmp 14) (.tmp 16)) (v := .pointer (some ⟨q1, o2 + ((i : Int)).toNat * 1, none⟩)) (pv_indexAddr' rfl hp3 rfl (e := 5) (sz := 1) (by kernel_rfl) (by omega) (by omega)) ?_
   refine Rg.p 19 (.load 5 (.tmp 18)) (v := .int .u8 ((xs).getD i 0)) (pv_load rfl (by kernel_rfl) (fun w hw => ((hB).keep (hw.at_ 0 rfl) (fun _ h => h)).cell _ _ hp3 _ (by omega) 0 (by decide))) ?_
   refine Rg.as 7 19 rfl ?_
   refine Rg.nx (fun _ _ h => h) [19,18,17,16,15,14,7,4] rfl ?_
   refine Ev.rg 6 ?_
   refine Rg.mv 20 4 rfl ?_
   refine Rg.p 21 (.binOp .shl 23 (.tmp 20) (.const (.int .u64 8)) 205) (pv_shl rfl rfl (by omega)) ?_
   refine Rg.mv 22 7 rfl ?_
   refine Rg.p 23 (.convert 5 23 (.tmp 22)) (pv_convert (q' := .u32) rfl (by kernel_rfl) (by kernel_rfl)) ?_
   refine Rg.p 24 (.binOp .or 23 (.tmp 21) (.tmp 23) 23) (pv_bits rfl rfl rfl) ?_
   refine Rg.as 4 24 rfl ?_
   refine Rg.nx (fun _ _ h => h) [24,23,22,21,20,19,18,17,16,15,14,7,4] rfl ?_
   refine Ev.rg 2 ?_
   refine Rg.p 25 (.binOp .add 3 (.tmp 16) (.const (.int .i64 1)) 3) (pv_addb rfl rfl (in_i64 (by omega) (by omega))) ?_
   refine Rg.mv 16 25 rfl ?_
   refine Rg.fin rfl ?_
   refine At.round (fun _ _ h => h) (i + 1) [0] (by omega) (by show 4 - (i + 1) < 4 - i; omega) (.cons (rfl) (.cons (rfl) (.cons (rfl) (.cons (rfl) (.nil _))))) rfl (by decide)
  ·
   have h6 := of_decide_eq_false h4
   refine Ev.xt 0 ?_
   refine At.nx (fun _ _ h => h) [4] rfl ?_
   refine Ev.sr 3 ?_
   refine Rg.mv 26 4 rfl ?_
   refine Rg.as 4 26 rfl ?_
   refine Rg.ac 5 (.int .i64 0) ?_
   refine Rg.nx (fun _ _ h => h) [5,4] rfl ?_
   refine Ev.rt ?_
   refine At.via (Q := Q) hQ ?_
   refine At.ret2 rfl rfl rfl rfl ?_
   exact fun w hw => ⟨by have h : i = 4 := (by omega); subst h; simp [getN, getE, show ¬ xs.length < 4 by omega], hw.base_below 0 rfl⟩

set_option maxHeartbeats 8000000 in
theorem Get_calls {p : Option Addr} {xs : List Int} {cap : Nat} {w : World} (hB : BytesAt (Low w) w p xs) (hl : xs.length ≤ 4294967296) (hc : xs.length ≤ cap) :
  Calls Try.prog 115 #[.slice p xs.length cap] w (Ret w (.tuple #[.int .u32 (getN xs), .int .i64 (getE xs)])) := by
 refine calls_ofQ (args := [_]) [base w (Low w)] Try.func115 (by kernel_rfl) (by kernel_rfl) (Heap.start w) ?_
 intro Q hQ
 refine Ev.sr 2 ?_
 refine Rg.ac 2 (.int .u32 0) ?_
 refine Rg.ac 3 (.int .i64 0) ?_
 refine Rg.nx (fun _ _ h => h) [3,2,0] rfl ?_
 refine Ev.sr 6 ?_
 refine Rg.mv 4 0 rfl ?_
 refine Rg.cl (some 5) 152 #[.tmp 4, .const (.int .i64 4)] #[29, 3] (v := .tuple #[.int .u32 (getN xs), .int .i64 (getE xs)]) rfl (fun w hw => get_calls ((hB).keep (hw.at_ 0 rfl) (fun k hk => hw.lt 0 rfl hk)) hl hc) ?_
 refine Rg.ex 6 5 0 rfl rfl ?_
 refine Rg.ex 7 5 1 rfl rfl ?_
 refine Rg.as 2 6 rfl ?_
 refine Rg.as 3 7 rfl ?_
 refine Rg.nx (fun _ _ h => h) [3,2] rfl ?_
 refine Ev.rt ?_
 refine At.via (Q := Q) hQ ?_
 refine At.ret2 rfl rfl rfl rfl ?_
 exact fun w hw => ⟨rfl, hw.base_below 0 rfl⟩

def byteAt (n : Int) (m k : Nat) : Int := IntKind.u8.wrap (shrI .u64 n (8 * ((m : Int) - 1 - (k : Int))))
def putV (n : Int) (m : Nat) : Nat → List Value
  | 0 => []
  | k + 1 => putV n m k ++ [.int .u8 (byteAt n m k)]
def byteRows (n : Int) (m : Nat) : List (List Value) := (List.range m).map fun k => [.int .u8 (byteAt n m k)]
theorem getD_rangeMap {α : Type} (f : Nat → α) (d : α) {m k : Nat} (h : k < m) : ((List.range m).map f).getD k d = f k := by
  simp [List.getD_eq_getElem?_getD, List.getElem?_map, List.getElem?_range h]
theorem byteRows_length (n : Int) (m : Nat) : (byteRows n m).length = m := by simp [byteRows]

set_option maxHeartbeats 8000000 in
theorem bytes_calls {n m : Int} {w : World} :
  Calls Try.prog 154 #[.int .u64 n, .int .i64 m] w (RetN w (fun _ : Nat × Nat => True) (fun x => .func (.func 173) #[] #[.pointer (some ⟨x.1, 0, none⟩), .pointer (some ⟨x.2, 0, none⟩)]) (fun x => [blk x.1 (.cells #[.int .i64 m] 3 (0, 0)), blk x.2 (.cells #[.int .u64 n] 34 (0, 0))])) := by
 refine calls_ofQ (args := [_, _]) [base w (Low w)] Try.func154 (by kernel_rfl) (by kernel_rfl) (Heap.start w) ?_
 intro Q hQ
 refine Ev.sr 3 ?_
 refine Rg.bx 2 34 (.tmp 0) rfl fun b1 => ?_
 refine Rg.bx 3 3 (.tmp 1) rfl fun b2 => ?_
 refine Rg.ac 4 (.nilFunc) ?_
 refine Rg.nx (fun _ _ h => h) [4,3,2] rfl ?_
 refine Ev.sr 2 ?_
 refine Rg.p 5 (.makeFunc (.func 173) #[] #[.tmp 3, .tmp 2]) (v := .func (.func 173) #[] #[.pointer (some ⟨b2, 0, none⟩), .pointer (some ⟨b1, 0, none⟩)]) (pv_makeFunc (xs := [.tmp 3, .tmp 2]) rfl) ?_
 refine Rg.as 4 5 rfl ?_
 refine Rg.nx (fun _ _ h => h) [4] rfl ?_
 refine Ev.rt ?_
 refine At.via (Q := Q) hQ ?_
 refine At.ret1 rfl rfl rfl ?_
 exact fun w hw => ⟨(b2, b1), trivial, rfl, hw⟩

set_option maxHeartbeats 8000000 in
theorem bytes1_iter {n : Int} {m : Nat} {b c : Nat} {w0 : World} {it : Item} (hm : m ≤ 8) :
  IterAt Try.prog 173 #[.pointer (some ⟨c, 0, none⟩), .pointer (some ⟨b, 0, none⟩)] (byteRows n m) w0 [blk c (.cells #[.int .i64 (m : Int)] 3 (0, 0)), blk b (.cells #[.int .u64 n] 34 (0, 0))] [it] := by
 intro T J Jx l t0 w fr h hY
 refine calls_ofQ (args := [.func (.yield l) #[] #[], .pointer (some ⟨c, 0, none⟩), .pointer (some ⟨b, 0, none⟩)]) [blk c (.cells #[.int .i64 (m : Int)] 3 (0, 0)), blk b (.cells #[.int .u64 n] 34 (0, 0)), J 0 t0, fr, it] Try.func173 (by kernel_rfl) (by kernel_rfl) h ?_
 intro Q hQ
 refine Ev.sr 3 ?_
 refine Rg.ld 5 3 1 0 rfl rfl rfl ?_
 refine Rg.p 6 (.binOp .sub 3 (.tmp 5) (.const (.int .i64 1)) 3) (pv_subb rfl rfl (in_i64 (by omega) (by omega))) ?_
 refine Rg.as 4 6 rfl ?_
 refine Rg.nx (fun _ _ h => h) [4,2,0] rfl ?_
 refine Ev.bk 0 ?_
 refine ev_loop (T := Nat × T) (fun x_ => (fun k t => [(0, .func (.yield l) #[] #[]), (2, .pointer (some ⟨b, 0, none⟩)), (4, .int .i64 ((m : Int) - 1 - (k : Int)))]) x_.1 x_.2) (fun x_ => (fun k t => [blk c (.cells #[.int .i64 (m : Int)] 3 (0, 0)), blk b (.cells #[.int .u64 n] 34 (0, 0)), J k t, fr, it]) x_.1 x_.2) (fun x_ => (fun k t => k ≤ m) x_.1 x_.2) (fun x_ => (fun k t => m - k) x_.1 x_.2) (0, t0) [0, 1, 2, 3, 4] (by kernel_rfl) (by show 0 ≤ m; omega) (.cons (rfl) (.cons (rfl) (.cons (congrArg (fun z => some (Value.int .i64 z)) (by omega)) (.nil _)))) rfl (by decide) ?_
 rintro ⟨k, t⟩ (hk : k ≤ m)
 show Ev _ _ [(0, .func (.yield l) #[] #[]), (2, .pointer (some ⟨b, 0, none⟩)), (4, .int .i64 ((m : Int) - 1 - (k : Int)))] [blk c (.cells #[.int .i64 (m : Int)] 3 (0, 0)), blk b (.cells #[.int .u64 n] 34 (0, 0)), J k t, fr, it] _
 refine Ev.sq ?_
 refine Ev.sr 2 ?_
 refine Rg.mv 7 4 rfl ?_
 refine Rg.p 8 (.binOp .geq 3 (.tmp 7) (.const (.int .i64 0)) 3) (pv_geq rfl rfl) ?_
 refine Rg.nx (fun _ _ h => h) [8,7,4,2,0] rfl ?_
 refine Ev.cd 8 rfl (fun h1 => ?_) (fun h1 => ?_)
 ·
  have h2 := of_decide_eq_true h1
  refine Ev.sk ?_
  refine At.nx (fun _ _ h => h) [8,7,4,2,0] rfl ?_
  refine Ev.sq ?_
  refine Ev.bk 1 ?_
  refine Ev.sr 8 ?_
  refine Rg.mv 11 0 rfl ?_
  refine Rg.ld 12 34 2 1 rfl rfl rfl ?_
  refine Rg.mv 13 4 rfl ?_
  refine Rg.p 14 (.binOp .mul 3 (.const (.int .i64 8)) (.tmp 13) 3) (pv_mulb rfl rfl (in_i64 (by omega) (by omega))) ?_
  refine Rg.p 15 (.binOp .shr 34 (.tmp 12) (.tmp 14) 3) (pv_shr rfl rfl (by omega)) ?_
  refine Rg.p 16 (.convert 34 5 (.tmp 15)) (pv_convert (q' := .u8) rfl (by kernel_rfl) (by kernel_rfl)) ?_
  refine rg_yield (T := T) (d := 17) (l := l) (fo := .tmp 11) (xs := #[.tmp 16]) (ts := #[5]) (g := none) (S1 := fun t1 => [blk c (.cells #[.int .i64 (m : Int)] 3 (0, 0)), blk b (.cells #[.int .u64 n] 34 (0, 0)), J (k + 1) t1, fr, it]) (S2 := fun t1 => [blk c (.cells #[.int .i64 (m : Int)] 3 (0, 0)), blk b (.cells #[.int .u64 n] 34 (0, 0)), Jx (k + 1) t1, fr, it]) rfl (by kernel_rfl) (by kernel_rfl) rfl rfl (yield_own hY [blk c (.cells #[.int .i64 (m : Int)] 3 (0, 0)), blk b (.cells #[.int .u64 n] 34 (0, 0))] (k) t (by rw [byteRows_length]; omega) (by unfold byteRows; rw [getD_rangeMap _ _ (by omega)]; rfl)) (fun t1 => ?_) (fun t1 => ?_)
  ·
   refine Rg.p 18 (.unOp .not 4 (.tmp 17)) (pv_not (b := true) rfl) ?_
   refine Rg.nx (fun _ _ h => h) [18,17,16,15,14,13,12,11,8,7,4,2,0] rfl ?_
   refine ev_cond_f (t := 18) (by kernel_rfl) rfl ?_
   refine Ev.sk ?_
   refine At.nx (fun _ _ h => h) [18,17,16,15,14,13,12,11,8,7,4,2,0] rfl ?_
   refine Ev.rg 3 ?_
   refine Rg.mv 9 4 rfl ?_
   refine Rg.p 10 (.binOp .sub 3 (.tmp 9) (.const (.int .i64 1)) 3) (pv_subb rfl rfl (in_i64 (by omega) (by omega))) ?_
   refine Rg.as 4 10 rfl ?_
   refine Rg.fin rfl ?_
   refine At.round (t := (k, t)) (fun _ _ h => h) (k + 1, t1) [0, 1, 2, 3, 4] (by show k + 1 ≤ m; omega) (by show m - (k + 1) < m - k; omega) (.cons (rfl) (.cons (rfl) (.cons (congrArg (fun z => some (Value.int .i64 z)) (by omega)) (.nil _)))) rfl (by decide)
  ·
   refine Rg.p 18 (.unOp .not 4 (.tmp 17)) (pv_not (b := false) rfl) ?_
   refine Rg.nx (fun _ _ h => h) [18,17,16,15,14,13,12,11,8,7,4,2,0] rfl ?_
   refine ev_cond_t (t := 18) (by kernel_rfl) rfl ?_
   refine Ev.rt ?_
   refine At.via (Q := Q) hQ ?_
   refine At.ret0 ?_ ?_ ?_
   ·
    rfl
   ·
    rfl
   exact fun w hw => ⟨⟨_, rfl⟩, .inr ⟨_, _, (by rw [byteRows_length]; omega), hw.pick [2, 3, 4] (by decide)⟩⟩
 ·
  have h3 := of_decide_eq_false h1
  refine Ev.xt 0 ?_
  refine At.via (Q := Q) hQ ?_
  refine At.norm0 ?_ ?_ ?_
  ·
   rfl
  ·
   rfl
  exact fun w hw => ⟨⟨_, rfl⟩, .inl ⟨t, (by have e : k = (byteRows n m).length := (by rw [byteRows_length]; omega); subst e; exact hw.pick [2, 3, 4] (by decide))⟩⟩

end Go.Proofs.Ytfhhggcdmgjbcaa.Sx
